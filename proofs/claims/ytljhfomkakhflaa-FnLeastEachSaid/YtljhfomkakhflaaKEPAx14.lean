import Derived.Test.YtljhfomkakhflaaKEPAx10
-- printed by wip/tools
namespace Go.Proofs.Ytljhfomkakhflaa.PA
open Go.RowKit Go.Proofs.YtljhfomkakhflaaW.PrintWords Go.Proofs.YtljhfomkakhflaaW.PrintLast Go.Proofs.YtljhfomkakhflaaW.PrintMore
attribute [local go_sem] max2_int min2_int max_two min_two max_three min_three max_four min_four
set_option linter.unusedVariables false
set_option linter.unusedSimpArgs false
attribute [local go_sem high] eqA28
mutual
def impl_leastStep.l0 : Nat → List (S28) → List Int → Int → List (S35) → Int → Int → Option (Int × Int × Int × Int × Int × Int × Int × Int × Int × Int × Int × Int × Int × List Int)
 | 0, _, _, _, _, _, _ => none
 | k + 1, x1, x2, x3, x13, x14, x15 => if x15 < x14 then (if 0 ≤ x15 then (if x15 < (x13.length : Int) then ((impl_CredOk.f k ((rd_T35 x13 x15).f0) ((rd_T35 x13 x15).f1.f0) ((rd_T35 x13 x15).f1.f1) ((rd_T35 x13 x15).f2) ((rd_T35 x13 x15).f3.f0) ((rd_T35 x13 x15).f3.f1) ((rd_T35 x13 x15).f4.f0) ((rd_T35 x13 x15).f4.f1) ((rd_T35 x13 x15).f5) ((rd_T35 x13 x15).f6)).bind fun t450 => (if t450 = true then ((impl_derive.f k x1 ((rd_T35 x13 x15).f0) ((rd_T35 x13 x15).f1.f0) ((rd_T35 x13 x15).f1.f1) ((rd_T35 x13 x15).f2) ((rd_T35 x13 x15).f3.f0) ((rd_T35 x13 x15).f3.f1) ((rd_T35 x13 x15).f4.f0) ((rd_T35 x13 x15).f4.f1) ((rd_T35 x13 x15).f5) ((rd_T35 x13 x15).f6)).bind fun t451 => (impl_leastStep.l1 k x1 x2 x3 x13 x14 x15 t451 (t451.length : Int) 0 ((rd_T35 x13 x15).f0) ((rd_T35 x13 x15).f1.f0) ((rd_T35 x13 x15).f1.f1) ((rd_T35 x13 x15).f2) ((rd_T35 x13 x15).f3.f0) ((rd_T35 x13 x15).f3.f1) ((rd_T35 x13 x15).f4.f0) ((rd_T35 x13 x15).f4.f1) ((rd_T35 x13 x15).f5) ((rd_T35 x13 x15).f6))) else (impl_leastStep.l0 k x1 x2 x3 x13 x14 (wrap64 (x15 + 1))))) else (none)) else (none)) else (some (0, 0, 0, 0, 0, 0, 0, 0, 0, 0, 0, 0, 0, ([] : List Int)))
def impl_leastStep.l1 : Nat → List (S28) → List Int → Int → List (S35) → Int → Int → List (S81) → Int → Int → Int → Int → Int → Int → Int → Int → Int → Int → Int → Int → Option (Int × Int × Int × Int × Int × Int × Int × Int × Int × Int × Int × Int × Int × List Int)
 | 0, _, _, _, _, _, _, _, _, _, _, _, _, _, _, _, _, _, _, _ => none
 | k + 1, x1, x2, x3, x13, x14, x15, x24, x25, x26, x450000, x450001, x450002, x450003, x450004, x450005, x450006, x450007, x450008, x450009 => if x26 < x25 then (if 0 ≤ x26 then (if x26 < (x24.length : Int) then (if 0 ≤ x3 then (if x3 < (x1.length : Int) then (if ((((rd_T81 x24 x26).f0.f0.f0) == ((rd_T28 x1 x3).f0.f0) && (((rd_T81 x24 x26).f0.f0.f1) == ((rd_T28 x1 x3).f0.f1))) && (((rd_T81 x24 x26).f0.f1) == ((rd_T28 x1 x3).f1))) = true then ((impl_sizeBy.f k x2 ((rd_T81 x24 x26).f0.f0.f0) ((rd_T81 x24 x26).f0.f0.f1) ((rd_T81 x24 x26).f0.f1) ((rd_T81 x24 x26).f1)).bind fun t457 => (if x3 < (x2.length : Int) then (if t457 = (rd x2 x3) then (some (x450000, x450001, x450002, x450003, x450004, x450005, x450006, x450007, x450008, x450009, (rd_T81 x24 x26).f0.f0.f0, (rd_T81 x24 x26).f0.f0.f1, (rd_T81 x24 x26).f0.f1, (rd_T81 x24 x26).f1)) else (impl_leastStep.l1 k x1 x2 x3 x13 x14 x15 x24 x25 (wrap64 (x26 + 1)) x450000 x450001 x450002 x450003 x450004 x450005 x450006 x450007 x450008 x450009)) else (none))) else (impl_leastStep.l1 k x1 x2 x3 x13 x14 x15 x24 x25 (wrap64 (x26 + 1)) x450000 x450001 x450002 x450003 x450004 x450005 x450006 x450007 x450008 x450009)) else (none)) else (none)) else (none)) else (none)) else (impl_leastStep.l0 k x1 x2 x3 x13 x14 (wrap64 (x15 + 1)))
end
def impl_leastStep.f (k : Nat) (l0 : List (S35)) (l1 : List (S28)) (l2 : List Int) (a3 : Int) : Option (Int × Int × Int × Int × Int × Int × Int × Int × Int × Int × Int × Int × Int × List Int) := impl_leastStep.l0 k l1 l2 a3 l0 (l0.length : Int) 0
def impl_leastStep.T8 : Bool × List (List Nat × List Nat) := (true, [([], []), ([0], [0]), ([], []), ([], []), ([2, 3], [2, 3]), ([4], [4]), ([1, 5], [1, 5]), ([6], [6]), ([7], [7]), ([7], [7]), ([8, 9, 7, 7], [7, 8, 9]), ([7], [7]), ([7], [7]), ([11, 12, 7], [7, 11, 12]), ([13, 7], [7, 13]), ([10, 14, 7], [7, 10, 14]), ([7, 15], [7, 15])])
def impl_leastStep.B8 : List Nat := [0, 1, 0, 0, 12, 28, 63, 127, 255, 255, 1023, 255, 255, 6399, 14591, 32767, 65535]
theorem impl_leastStep.tab8 : rtab .any (opsOf Try.f26 8) = impl_leastStep.T8 := by kernel_rfl
theorem impl_leastStep.bits8 : waitsOk impl_leastStep.T8.2 impl_leastStep.B8 = true := by kernel_rfl
set_option maxHeartbeats 8000000 in
set_option maxRecDepth 100000 in
theorem impl_leastStep.calls (k : Nat) (A0 : Option Addr) (c0 : Nat) (l0 : List (S35)) (A1 : Option Addr) (c1 : Nat) (l1 : List (S28)) (A2 : Option Addr) (c2 : Nat) (l2 : List Int) (a3 : Int) (r1 : Int) (r2 : Int) (r3 : Int) (r4 : Int) (r5 : Int) (r6 : Int) (r7 : Int) (r8 : Int) (r9 : Int) (r10 : Int) (r11 : Int) (r12 : Int) (r13 : Int) (r14 : List Int) (w : World) (hr0 : Kd.C k35 w A0 l0.length l0) (hc0 : l0.length ≤ c0) (hr1 : Kd.C k28 w A1 l1.length l1) (hc1 : l1.length ≤ c1) (hr2 : Kd.C (Kd.int .i64) w A2 l2.length l2) (hc2 : l2.length ≤ c2) (h : impl_leastStep.f k l0 l1 l2 a3 = some (r1, r2, r3, r4, r5, r6, r7, r8, r9, r10, r11, r12, r13, r14)) :
  Calls Try.prog 26 #[.slice A0 l0.length c0, .slice A1 l1.length c1, .slice A2 l2.length c2, .int .i64 a3] w fun e w' => ∃ v13_ : Value, e = .returned (.agg #[.int .i64 r1, .int .i64 r2, .int .i64 r3, .int .i64 r4, .int .i64 r5, .int .i64 r6, .int .i64 r7, .int .i64 r8, .int .i64 r9, .int .i64 r10, .int .i64 r11, .int .i64 r12, .int .i64 r13, v13_]) ∧ Kd.R (Kd.int .i64) 3 w' w.heap.size (fun _ => True) v13_ r14 ∧ Below w.heap.size w w' := by
 have hu58 := Try.underlying58
 have hu35 := Try.underlying35
 have hu81 := Try.underlying81
 have hu28 := Try.underlying28
 have HR0 := aa_ hr0
 have HC0 := aa_ hc0
 clear hr0 hc0
 have HR1 := aa_ hr1
 have HC1 := aa_ hc1
 clear hr1 hc1
 have HR2 := aa_ hr2
 have HC2 := aa_ hc2
 clear hr2 hc2
 have HB := aa_ (Below.refl w.heap.size w)
 have H : (impl_leastStep.l0 k l1 l2 a3 l0 (l0.length : Int) 0) = some (r1, r2, r3, r4, r5, r6, r7, r8, r9, r10, r11, r12, r13, r14) := h
 clear h
 have H' := aa_ H
 clear H
 go_enter Try.func26, Try.ntmps26
 go_wp2_with (first | ((with_reducible refine gD_ 8 rfl ?_); refine bx_ (N := 8) (cs := #[.int .i64 0, .int .i64 0, .int .i64 0, .int .i64 0, .int .i64 0, .int .i64 0, .int .i64 0, .int .i64 0, .int .i64 0, .int .i64 0, .int .i64 0, .int .i64 0, .int .i64 0, .slice none 0 0]) (t := 58) ?_; intro gb447 hg w5 hbox hb; have BK447 := aa_ (hbox); have GW447 := gs_ hg; have GE447 := gs_ hg; replace HB := hbs_ hb; clear hb hbox hg))
 go_loopg [15] k (fun kq v15 w' => ∃ (x15_1 : Int) (x448000_1 : Int) (x448001_1 : Int) (x448002_1 : Int) (x448003_1 : Int) (x448004_1 : Int) (x448005_1 : Int) (x448006_1 : Int) (x448007_1 : Int) (x448008_1 : Int) (x448009_1 : Int) (x448010_1 : Int) (x448011_1 : Int) (x448012_1 : Int), v15 = .int .i64 x15_1 ∧ Aside0 (impl_leastStep.l0 kq l1 l2 a3 l0 (l0.length : Int) x15_1 = some (r1, r2, r3, r4, r5, r6, r7, r8, r9, r10, r11, r12, r13, r14)) ∧ Aside0 (kq ≤ k) ∧ Aside0 (w'.heap[gb447]? = some (.cells #[.int .i64 x448000_1, .int .i64 x448001_1, .int .i64 x448002_1, .int .i64 x448003_1, .int .i64 x448004_1, .int .i64 x448005_1, .int .i64 x448006_1, .int .i64 x448007_1, .int .i64 x448008_1, .int .i64 x448009_1, .int .i64 x448010_1, .int .i64 x448011_1, .int .i64 x448012_1, (.slice none 0 0)] 58 (0, 0))) ∧ Aside0 (Below w.heap.size w w'))
 case atStart => exact ⟨(0), (0), (0), (0), (0), (0), (0), (0), (0), (0), (0), (0), (0), (0), rf_, H', ⟨Nat.le_refl _⟩, ⟨bk_ BK447⟩, ⟨bl_⟩⟩
 case round =>
  clear H'
  try clear p2
  obtain ⟨x15_1, x448000_1, x448001_1, x448002_1, x448003_1, x448004_1, x448005_1, x448006_1, x448007_1, x448008_1, x448009_1, x448010_1, x448011_1, x448012_1, rfl, HA, HK1, BK447, HB⟩ := hrel
  cases gk with
  | zero => exact absurd HA.out (by simp [impl_leastStep.l0])
  | succ k1 =>
   have H := HA.out
   clear HA
   simp only [impl_leastStep.l0] at H
   by_cases c6 : x15_1 < (l0.length : Int)
   ·rw [if_pos c6] at H
    have c6b0 : decide (x15_1 < (l0.length : Int)) = true := decide_eq_true c6
    clear c6
    obtain ⟨c7b0, H⟩ := ifd_ H
    obtain ⟨c8b0, H⟩ := ifd_ H
    obtain ⟨t450, A9, H⟩ := bindE_ H
    have HC10 := aa_ H
    clear H
    have p448 : 0 ≤ (x15_1 : Int) := od_
    have q448 : x15_1 < (l0.length : Int) := od_
    obtain ⟨ad448, e448, hx448_0, hx448_1, hx448_2, hx448_3, hx448_4, hx448_5, hx448_6, hx448_7, hx448_8, hx448_9⟩ := at_T35 (Kd.C_below HR0.out HB.out) x15_1 p448 q448
    cases e448
    replace p448 := eq_true p448
    replace q448 := eq_true q448
    go_upto_if 21 with (first | ((with_reducible refine gD_ 10 rfl ?_); refine bx_ (N := 10) (cs := #[.int .i64 0, .int .i64 0, .int .i64 0, .int .i64 0, .int .i64 0, .int .i64 0, .int .i64 0, .int .i64 0, .int .i64 0, .int .i64 0]) (t := 35) ?_; intro gb449 hg w11 hbox hb; have BK449 := aa_ (hbox); have GW449 := gs_ hg; have GE449 := gs_ hg; replace HB := hbs_ hb; have NB447_449 := nl_ hg BK447; have NB449_447 := nr_ hg BK447; replace BK447 := bkb_ BK447 hb; clear hb hbox hg; have hnb12 := NB449_447.out; have hnc12 := NB447_449.out; obtain ⟨hcz13, hfz13⟩ := bcf_ BK449) | ((with_reducible refine gC_ 40 rfl ?_); refine goesC_ (some 20) Try.func40 #[.agg #[.int .i64 ((rd_T35 l0 x15_1).f0), .int .i64 ((rd_T35 l0 x15_1).f1.f0), .int .i64 ((rd_T35 l0 x15_1).f1.f1), .int .i64 ((rd_T35 l0 x15_1).f2), .int .i64 ((rd_T35 l0 x15_1).f3.f0), .int .i64 ((rd_T35 l0 x15_1).f3.f1), .int .i64 ((rd_T35 l0 x15_1).f4.f0), .int .i64 ((rd_T35 l0 x15_1).f4.f1), .int .i64 ((rd_T35 l0 x15_1).f5), .int .i64 ((rd_T35 l0 x15_1).f6)]] ?_; (with_reducible refine (impl_CredOk.calls k1 ((rd_T35 l0 x15_1).f0) ((rd_T35 l0 x15_1).f1.f0) ((rd_T35 l0 x15_1).f1.f1) ((rd_T35 l0 x15_1).f2) ((rd_T35 l0 x15_1).f3.f0) ((rd_T35 l0 x15_1).f3.f1) ((rd_T35 l0 x15_1).f4.f0) ((rd_T35 l0 x15_1).f4.f1) ((rd_T35 l0 x15_1).f5) ((rd_T35 l0 x15_1).f6) t450 _ A9.out).mono ?_); rintro e w14 ⟨rfl, hb⟩; refine ⟨_, rfl, ?_⟩; replace BK447 := aa_ (blk_below (g := gb447) (o := .cells #[.int .i64 x448000_1, .int .i64 x448001_1, .int .i64 x448002_1, .int .i64 x448003_1, .int .i64 x448004_1, .int .i64 x448005_1, .int .i64 x448006_1, .int .i64 x448007_1, .int .i64 x448008_1, .int .i64 x448009_1, .int .i64 x448010_1, .int .i64 x448011_1, .int .i64 x448012_1, .slice none 0 0] 58 (0, 0)) (bk_ BK447) hb); replace BK449 := aa_ (blk_below (g := gb449) (o := .cells #[.int .i64 ((rd_T35 l0 x15_1).f0), .int .i64 ((rd_T35 l0 x15_1).f1.f0), .int .i64 ((rd_T35 l0 x15_1).f1.f1), .int .i64 ((rd_T35 l0 x15_1).f2), .int .i64 ((rd_T35 l0 x15_1).f3.f0), .int .i64 ((rd_T35 l0 x15_1).f3.f1), .int .i64 ((rd_T35 l0 x15_1).f4.f0), .int .i64 ((rd_T35 l0 x15_1).f4.f1), .int .i64 ((rd_T35 l0 x15_1).f5), .int .i64 ((rd_T35 l0 x15_1).f6)] 35 (0, 0)) (bk_ BK449) hb); replace HB := hbs_ hb; clear hb))
    (try simp only [Act.put, sb_, sz_, ss_])
    have H := HC10.out
    clear HC10
    by_cases c15 : t450 = true
    ·subst c15
     replace H := ite_t_ H
     obtain ⟨t451, A16, H⟩ := bindE_ H
     have H' := aa_ H
     clear H
     have hnb17 := NB449_447.out
     have hnc17 := NB447_449.out
     have hcz18 := blk_cell BK449.out
     have hfz18 := blk_frozen BK449.out
     go_wp2_with (first | ((with_reducible refine gC_ 41 rfl ?_); refine goesC_ (some 24) Try.func41 #[.slice A1 l1.length c1, .agg #[.int .i64 ((rd_T35 l0 x15_1).f0), .int .i64 ((rd_T35 l0 x15_1).f1.f0), .int .i64 ((rd_T35 l0 x15_1).f1.f1), .int .i64 ((rd_T35 l0 x15_1).f2), .int .i64 ((rd_T35 l0 x15_1).f3.f0), .int .i64 ((rd_T35 l0 x15_1).f3.f1), .int .i64 ((rd_T35 l0 x15_1).f4.f0), .int .i64 ((rd_T35 l0 x15_1).f4.f1), .int .i64 ((rd_T35 l0 x15_1).f5), .int .i64 ((rd_T35 l0 x15_1).f6)]] ?_; (with_reducible refine (impl_derive.calls k1 _ _ l1 ((rd_T35 l0 x15_1).f0) ((rd_T35 l0 x15_1).f1.f0) ((rd_T35 l0 x15_1).f1.f1) ((rd_T35 l0 x15_1).f2) ((rd_T35 l0 x15_1).f3.f0) ((rd_T35 l0 x15_1).f3.f1) ((rd_T35 l0 x15_1).f4.f0) ((rd_T35 l0 x15_1).f4.f1) ((rd_T35 l0 x15_1).f5) ((rd_T35 l0 x15_1).f6) t451 _ ?side1 ?side2 A16.out).mono ?_); (case side1 => repeat (first | exact (Kd.C_below HR1.out HB.out) | (with_reducible refine Kd.C_alloc ?_ _) | (with_reducible refine Kd.C_drewN ?_ _) | (with_reducible refine Kd.C_drew ?_))); (case side2 => exact HC1.out); rintro e w19 ⟨v452, rfl, ho0, hb⟩; refine ⟨_, rfl, ?_⟩; have HO453 := aa_ (Kd.S_lower ho0 bls_); replace BK447 := bkb_ BK447 hb; replace BK449 := bkb_ BK449 hb; replace HB := hbs_ hb; (try clear hb ho0); obtain ⟨Ao20, co20, eo20⟩ := Kd.S_slice HO453.out; subst eo20))
     go_loopg [26] k1 (fun kq v26 w' => ∃ (x26_2 : Int) (x448000_2 : Int) (x448001_2 : Int) (x448002_2 : Int) (x448003_2 : Int) (x448004_2 : Int) (x448005_2 : Int) (x448006_2 : Int) (x448007_2 : Int) (x448008_2 : Int) (x448009_2 : Int) (x448010_2 : Int) (x448011_2 : Int) (x448012_2 : Int), v26 = .int .i64 x26_2 ∧ Aside0 (impl_leastStep.l1 kq l1 l2 a3 l0 (l0.length : Int) x15_1 t451 (t451.length : Int) x26_2 ((rd_T35 l0 x15_1).f0) ((rd_T35 l0 x15_1).f1.f0) ((rd_T35 l0 x15_1).f1.f1) ((rd_T35 l0 x15_1).f2) ((rd_T35 l0 x15_1).f3.f0) ((rd_T35 l0 x15_1).f3.f1) ((rd_T35 l0 x15_1).f4.f0) ((rd_T35 l0 x15_1).f4.f1) ((rd_T35 l0 x15_1).f5) ((rd_T35 l0 x15_1).f6) = some (r1, r2, r3, r4, r5, r6, r7, r8, r9, r10, r11, r12, r13, r14)) ∧ Aside0 (kq ≤ k1) ∧ Aside0 (Kd.S k81 81 w' w.heap.size (fun _ => True) (.slice Ao20 t451.length co20) t451) ∧ Aside0 (w'.heap[gb447]? = some (.cells #[.int .i64 x448000_2, .int .i64 x448001_2, .int .i64 x448002_2, .int .i64 x448003_2, .int .i64 x448004_2, .int .i64 x448005_2, .int .i64 x448006_2, .int .i64 x448007_2, .int .i64 x448008_2, .int .i64 x448009_2, .int .i64 x448010_2, .int .i64 x448011_2, .int .i64 x448012_2, (.slice none 0 0)] 58 (0, 0))) ∧ Aside0 (w'.heap[gb449]? = some (.cells #[.int .i64 ((rd_T35 l0 x15_1).f0), .int .i64 ((rd_T35 l0 x15_1).f1.f0), .int .i64 ((rd_T35 l0 x15_1).f1.f1), .int .i64 ((rd_T35 l0 x15_1).f2), .int .i64 ((rd_T35 l0 x15_1).f3.f0), .int .i64 ((rd_T35 l0 x15_1).f3.f1), .int .i64 ((rd_T35 l0 x15_1).f4.f0), .int .i64 ((rd_T35 l0 x15_1).f4.f1), .int .i64 ((rd_T35 l0 x15_1).f5), .int .i64 ((rd_T35 l0 x15_1).f6)] 35 (0, 0))) ∧ Aside0 (Below w.heap.size w w'))
     case atStart => exact ⟨(0), (x448000_1), (x448001_1), (x448002_1), (x448003_1), (x448004_1), (x448005_1), (x448006_1), (x448007_1), (x448008_1), (x448009_1), (x448010_1), (x448011_1), (x448012_1), rf_, H', ⟨Nat.le_refl _⟩, ⟨rs_ HO453⟩, ⟨bk_ BK447⟩, ⟨bk_ BK449⟩, ⟨bl_⟩⟩
     case round =>
      clear H'
      try clear p2
      try clear p4
      try clear q4
      try clear hx4
      try clear c6b0
      try clear c7b0
      try clear c8b0
      try clear hcz13
      try clear hcz18
      try clear hfz13
      try clear hfz18
      try clear hx448_0
      try clear hx448_1
      try clear hx448_2
      try clear hx448_3
      try clear hx448_4
      try clear hx448_5
      try clear hx448_6
      try clear hx448_7
      try clear hx448_8
      try clear hx448_9
      try clear p2
      try clear p448
      try clear q448
      obtain ⟨x26_2, x448000_2, x448001_2, x448002_2, x448003_2, x448004_2, x448005_2, x448006_2, x448007_2, x448008_2, x448009_2, x448010_2, x448011_2, x448012_2, rfl, HA, HK2, HO_24, BK447, BK449, HB⟩ := hrel
      cases gk with
      | zero => exact absurd HA.out (by simp [impl_leastStep.l1])
      | succ k2 =>
       have H := HA.out
       clear HA
       simp only [impl_leastStep.l1] at H
       by_cases c21 : x26_2 < (t451.length : Int)
       ·rw [if_pos c21] at H
        have c21b0 : decide (x26_2 < (t451.length : Int)) = true := decide_eq_true c21
        clear c21
        (first | rw [c21b0] | (simp only [i64_w, i32_w]; rw [c21b0]) | (have cz_ := c21b0; simp only [Int.ofNat_lt, Int.ofNat_le, gt_iff_lt, ge_iff_le] at cz_; rw [cz_]; clear cz_) | skip)
        obtain ⟨c22b0, H⟩ := ifd_ H
        obtain ⟨c23b0, H⟩ := ifd_ H
        obtain ⟨c24b0, H⟩ := ifd_ H
        obtain ⟨c25b0, H⟩ := ifd_ H
        by_cases c26 : ((((rd_T81 t451 x26_2).f0.f0.f0) == ((rd_T28 l1 a3).f0.f0) && (((rd_T81 t451 x26_2).f0.f0.f1) == ((rd_T28 l1 a3).f0.f1))) && (((rd_T81 t451 x26_2).f0.f1) == ((rd_T28 l1 a3).f1))) = true
        ·rw [if_pos c26] at H
         have c26b0 : ((((rd_T81 t451 x26_2).f0.f0.f0) == ((rd_T28 l1 a3).f0.f0) && (((rd_T81 t451 x26_2).f0.f0.f1) == ((rd_T28 l1 a3).f0.f1))) && (((rd_T81 t451 x26_2).f0.f1) == ((rd_T28 l1 a3).f1))) = true := c26
         clear c26
         obtain ⟨t457, A27, H⟩ := bindE_ H
         obtain ⟨c28b0, H⟩ := ifd_ H
         have HC29 := aa_ H
         clear H
         have p454 : 0 ≤ (x26_2 : Int) := od_
         have q454 : x26_2 < (t451.length : Int) := od_
         obtain ⟨ad454, A454_3, c454_3, e454, hx454_0, hx454_1, hx454_2, hx454_3, hl454_3, hi454_3⟩ := at_T81 (Kd.S_reads' HO_24.out).2.2 x26_2 p454 q454
         cases e454
         obtain ⟨ce454, hce454, hMe454, hcc454⟩ := Kd.S_get HO_24.out z81 x26_2 p454 (by first | exact q454 | exact od_ | (have e_ := (Kd.S_reads' HO_24.out).1; omega))
         obtain ⟨ve454_3, rfl, ge454_3⟩ := k81_openM hMe454
         have hv454_3 := hcc454 3 _ rfl
         rw [add_field _ _ 3 (by omega)] at hv454_3
         replace hv454_3 := Option.some.inj (hv454_3.symm.trans hx454_3)
         rw [hv454_3] at ge454_3
         have HL454_3 := aa_ (show Kd.R (Kd.int .i64) 3 _ _ _ _ ((rd_T81 t451 x26_2).f1) from ge454_3)
         clear hv454_3 ge454_3
         clear hcc454 hce454
         have HR454_3 := aa_ hi454_3
         have HC454_3 := aa_ hl454_3
         clear hi454_3 hl454_3
         replace p454 := eq_true p454
         replace q454 := eq_true q454
         try go_wp2_with (first | ((with_reducible refine gD_ 12 rfl ?_); refine bx_ (N := 12) (cs := #[.int .i64 0, .int .i64 0, .int .i64 0, .slice none 0 0]) (t := 81) ?_; intro gb455 hg w30 hbox hb; replace HO_24 := aa_ (Kd.S_below (Kd.S_elderB (rs_ HO_24) gb455 (Nat.le_of_eq hg.symm)) hb); replace HL454_3 := aa_ (Kd.R_below (rr_ HL454_3) hb); replace HR454_3 := aa_ (Kd.C_below (by repeat (first | (with_reducible exact HR454_3.out) | (with_reducible refine Kd.C_alloc ?_ _) | (with_reducible refine Kd.C_drewN ?_ _) | (with_reducible refine Kd.C_drew ?_) | exact HR454_3.out)) hb); have BK455 := aa_ (hbox); have GW455 := gs_ hg; have GE455 := gs_ hg; replace HB := hbs_ hb; have NB447_455 := nl_ hg BK447; have NB455_447 := nr_ hg BK447; replace BK447 := bkb_ BK447 hb; have NB449_455 := nl_ hg BK449; have NB455_449 := nr_ hg BK449; replace BK449 := bkb_ BK449 hb; clear hb hbox hg; have hnb31 := NB455_447.out; have hnc31 := NB447_455.out; have hnb32 := NB455_449.out; have hnc32 := NB449_455.out; obtain ⟨hcz33, hfz33⟩ := bcf_ BK455))
         have n0_ : Aside0 (Kd.S k81 81 ((((w30.setCell ⟨gb455, 0, none⟩ (.int .i64 ((rd_T81 t451 x26_2).f0.f0.f0))).setCell ⟨gb455, 1, none⟩ (.int .i64 ((rd_T81 t451 x26_2).f0.f0.f1))).setCell ⟨gb455, 2, none⟩ (.int .i64 ((rd_T81 t451 x26_2).f0.f1))).setCell ⟨gb455, 3, none⟩ (.slice A454_3 ((rd_T81 t451 x26_2).f1).length c454_3)) w.heap.size (fun k_ => k_ ≠ gb455) (.slice (some ad454) t451.length co20) t451) := ⟨by (with_reducible repeat (first | apply Kd.S_alloc | apply Kd.S_drewN | apply Kd.S_drew)); exact Kd.S_mono (fs4_ (Kd.S_mono HO_24.out (fun k_ hk => (⟨hk, hk.2⟩ : _ ∧ k_ ≠ gb455))) (fun _ hk => hk.2)) (fun _ hk => hk.1.2)⟩
         have n1_ : Aside0 (Kd.R (Kd.int .i64) 3 ((((w30.setCell ⟨gb455, 0, none⟩ (.int .i64 ((rd_T81 t451 x26_2).f0.f0.f0))).setCell ⟨gb455, 1, none⟩ (.int .i64 ((rd_T81 t451 x26_2).f0.f0.f1))).setCell ⟨gb455, 2, none⟩ (.int .i64 ((rd_T81 t451 x26_2).f0.f1))).setCell ⟨gb455, 3, none⟩ (.slice A454_3 ((rd_T81 t451 x26_2).f1).length c454_3)) w.heap.size (fun k_ => some k_ ≠ (.slice (some ad454) t451.length co20 : Value).ownBlock) (.slice A454_3 ((rd_T81 t451 x26_2).f1).length c454_3) ((rd_T81 t451 x26_2).f1)) := ⟨by (with_reducible repeat (first | apply Kd.R_alloc | apply Kd.R_drewN | apply Kd.R_drew)); exact Kd.R_mono (fr4_ (Kd.R_types HL454_3.out BK455.out (by decide)) (fun _ hk => hk.2)) (fun _ hk => hk.1.2)⟩
         have n2_ : Aside0 (((((w30.setCell ⟨gb455, 0, none⟩ (.int .i64 ((rd_T81 t451 x26_2).f0.f0.f0))).setCell ⟨gb455, 1, none⟩ (.int .i64 ((rd_T81 t451 x26_2).f0.f0.f1))).setCell ⟨gb455, 2, none⟩ (.int .i64 ((rd_T81 t451 x26_2).f0.f1))).setCell ⟨gb455, 3, none⟩ (.slice A454_3 ((rd_T81 t451 x26_2).f1).length c454_3)).heap[gb447]? = some (.cells #[.int .i64 x448000_2, .int .i64 x448001_2, .int .i64 x448002_2, .int .i64 x448003_2, .int .i64 x448004_2, .int .i64 x448005_2, .int .i64 x448006_2, .int .i64 x448007_2, .int .i64 x448008_2, .int .i64 x448009_2, .int .i64 x448010_2, .int .i64 x448011_2, .int .i64 x448012_2, .slice none 0 0] 58 (0, 0))) := ⟨bk_ BK447⟩
         have n3_ : Aside0 (((((w30.setCell ⟨gb455, 0, none⟩ (.int .i64 ((rd_T81 t451 x26_2).f0.f0.f0))).setCell ⟨gb455, 1, none⟩ (.int .i64 ((rd_T81 t451 x26_2).f0.f0.f1))).setCell ⟨gb455, 2, none⟩ (.int .i64 ((rd_T81 t451 x26_2).f0.f1))).setCell ⟨gb455, 3, none⟩ (.slice A454_3 ((rd_T81 t451 x26_2).f1).length c454_3)).heap[gb449]? = some (.cells #[.int .i64 ((rd_T35 l0 x15_1).f0), .int .i64 ((rd_T35 l0 x15_1).f1.f0), .int .i64 ((rd_T35 l0 x15_1).f1.f1), .int .i64 ((rd_T35 l0 x15_1).f2), .int .i64 ((rd_T35 l0 x15_1).f3.f0), .int .i64 ((rd_T35 l0 x15_1).f3.f1), .int .i64 ((rd_T35 l0 x15_1).f4.f0), .int .i64 ((rd_T35 l0 x15_1).f4.f1), .int .i64 ((rd_T35 l0 x15_1).f5), .int .i64 ((rd_T35 l0 x15_1).f6)] 35 (0, 0))) := ⟨bk_ BK449⟩
         have n4_ : Aside0 (((((w30.setCell ⟨gb455, 0, none⟩ (.int .i64 ((rd_T81 t451 x26_2).f0.f0.f0))).setCell ⟨gb455, 1, none⟩ (.int .i64 ((rd_T81 t451 x26_2).f0.f0.f1))).setCell ⟨gb455, 2, none⟩ (.int .i64 ((rd_T81 t451 x26_2).f0.f1))).setCell ⟨gb455, 3, none⟩ (.slice A454_3 ((rd_T81 t451 x26_2).f1).length c454_3)).heap[gb455]? = some (.cells #[.int .i64 ((rd_T81 t451 x26_2).f0.f0.f0), .int .i64 ((rd_T81 t451 x26_2).f0.f0.f1), .int .i64 ((rd_T81 t451 x26_2).f0.f1), .slice A454_3 ((rd_T81 t451 x26_2).f1).length c454_3] 81 (0, 0))) := ⟨bk_ BK455⟩
         have n5_ : Aside0 (Below w.heap.size w ((((w30.setCell ⟨gb455, 0, none⟩ (.int .i64 ((rd_T81 t451 x26_2).f0.f0.f0))).setCell ⟨gb455, 1, none⟩ (.int .i64 ((rd_T81 t451 x26_2).f0.f0.f1))).setCell ⟨gb455, 2, none⟩ (.int .i64 ((rd_T81 t451 x26_2).f0.f1))).setCell ⟨gb455, 3, none⟩ (.slice A454_3 ((rd_T81 t451 x26_2).f1).length c454_3))) := ⟨bl_⟩
         (try clear HO_24)
         (try clear HL454_3)
         (try clear BK447)
         (try clear BK449)
         (try clear BK455)
         (try clear HB)
         generalize ((((w30.setCell ⟨gb455, 0, none⟩ (.int .i64 ((rd_T81 t451 x26_2).f0.f0.f0))).setCell ⟨gb455, 1, none⟩ (.int .i64 ((rd_T81 t451 x26_2).f0.f0.f1))).setCell ⟨gb455, 2, none⟩ (.int .i64 ((rd_T81 t451 x26_2).f0.f1))).setCell ⟨gb455, 3, none⟩ (.slice A454_3 ((rd_T81 t451 x26_2).f1).length c454_3)) = w34 at n0_ n1_ n2_ n3_ n4_ n5_ ⊢
         have HO_24 := n0_
         have HL454_3 := n1_
         have BK447 := n2_
         have BK449 := n3_
         have BK455 := n4_
         have HB := n5_
         clear n0_ n1_ n2_ n3_ n4_ n5_
         replace HO_24 := aa_ (Kd.S_drew HO_24.out)
         replace HL454_3 := aa_ (Kd.R_drew HL454_3.out)
         replace BK447 := aa_ (blk_drew BK447.out)
         replace BK449 := aa_ (blk_drew BK449.out)
         replace BK455 := aa_ (blk_drew BK455.out)
         replace HB := aa_ (below_drew1 HB.out)
         have p456 : 0 ≤ (a3 : Int) := od_
         have q456 : a3 < (l1.length : Int) := od_
         obtain ⟨ad456, e456, hx456_0, hx456_1, hx456_2⟩ := at_T28 HR1.out a3 p456 q456
         have hw456_2 := hx456_2
         have hw456_1 := hx456_1
         have hw456_0 := hx456_0
         cases e456
         replace hx456_0 := cb_ HB hx456_0
         replace hx456_1 := cb_ HB hx456_1
         replace hx456_2 := cb_ HB hx456_2
         replace p456 := eq_true p456
         replace q456 := eq_true q456
         have p458 : 0 ≤ (a3 : Int) := od_
         have q458 : a3 < (l2.length : Int) := od_
         obtain ⟨ad458, e458, hx458_0⟩ := Kd.at_int HR2.out a3 p458 q458
         have hw458_0 := hx458_0
         cases e458
         replace hx458_0 := cb_ HB hx458_0
         replace p458 := eq_true p458
         replace q458 := eq_true q458
         refine start_ (n := 17) (S := fun w' => w'.cell? ⟨gb455, 0, none⟩ = some (.int .i64 ((rd_T81 t451 x26_2).f0.f0.f0)) ∧ w'.cell? ⟨gb455, 1, none⟩ = some (.int .i64 ((rd_T81 t451 x26_2).f0.f0.f1)) ∧ w'.cell? ⟨gb455, 2, none⟩ = some (.int .i64 ((rd_T81 t451 x26_2).f0.f1)) ∧ w'.cell? ⟨gb455, 3, none⟩ = some (.slice A454_3 ((rd_T81 t451 x26_2).f1).length c454_3) ∧ w'.cell? (ad456.add ((a3).toNat * 3)) = some (.int .i64 ((rd_T28 l1 a3).f0.f0)) ∧ w'.cell? ⟨(ad456.add ((a3).toNat * 3)).block, (ad456.add ((a3).toNat * 3)).off + 1, none⟩ = some (.int .i64 ((rd_T28 l1 a3).f0.f1)) ∧ w'.cell? ⟨(ad456.add ((a3).toNat * 3)).block, (ad456.add ((a3).toNat * 3)).off + 2, none⟩ = some (.int .i64 ((rd_T28 l1 a3).f1)) ∧ w'.cell? (ad458.add (a3).toNat) = some (.int .i64 (rd l2 a3))) (ds := []) (ba_ 17 0) (by kernel_rfl) rfl rfl ⟨(blk_cell BK455.out 0).trans rfl, (blk_cell BK455.out 1).trans rfl, (blk_cell BK455.out 2).trans rfl, (blk_cell BK455.out 3).trans rfl, (cb_ HB hw456_0 :), (cb_ HB hw456_1 :), (cb_ HB hw456_2 :), (cb_ HB hw458_0 :)⟩ (fun hHeld => ?_); refine with_tabW impl_leastStep.tab8 impl_leastStep.bits8 (fun HT_ HW_ => ?_)
         generalize w34.drew = w35 at HO_24 HL454_3 BK447 BK449 BK455 HB hx456_0 hx456_1 hx456_2 hx458_0 hHeld ⊢
         refine pz_ 0 30 (ba_ 17 1) (ao_ HT_) ?_
         refine pz_ 2 32 (ba_ 17 5) (ao_ HT_) ?_
         refine pz_ 3 33 (ba_ 17 13) (ao_ HT_) ?_
         refine pz_ 4 34 (ba_ 17 29) (ao_ HT_) ?_
         refine tz_ 1 31 (ba_ 17 31) (take_ofW HT_.out HW_.out (by kernel_rfl)) hHeld ?_
         refine tz_ 5 35 (ba_ 17 63) (take_ofW HT_.out HW_.out (by kernel_rfl)) hHeld ?_
         refine pz_ 6 36 (ba_ 17 127) (ao_ HT_) ?_
         refine pz_ 7 37 (ba_ 17 255) (ao_ HT_) ?_
         refine pz_ 8 38 (ba_ 17 511) (ao_ HT_) ?_
         refine pz_ 11 41 (ba_ 17 2559) (ao_ HT_) ?_
         refine pz_ 12 42 (ba_ 17 6655) (ao_ HT_) ?_
         refine pz_ 13 43 (ba_ 17 14847) (ao_ HT_) ?_
         refine tz_ 9 39 (ba_ 17 15359) (take_ofW HT_.out HW_.out (by kernel_rfl)) hHeld ?_
         refine tz_ 14 44 (ba_ 17 31743) (take_ofW HT_.out HW_.out (by kernel_rfl)) hHeld ?_
         refine one_ (i := 10) (N := some 40) (ba_ 17 32767) rfl rfl (one_of HT_.out (by kernel_rfl)) (by decide) (fun K hK => ?_)
         refine goes_ Try.func42 (by kernel_rfl) rfl #[.slice (some ad458) l2.length c2, .agg #[.int .i64 ((rd_T81 t451 x26_2).f0.f0.f0), .int .i64 ((rd_T81 t451 x26_2).f0.f0.f1), .int .i64 ((rd_T81 t451 x26_2).f0.f1), .slice A454_3 ((rd_T81 t451 x26_2).f1).length c454_3]] (by rfl) rfl rfl (by (try simp only [List.map_toArray, List.map_cons, List.map_nil]); first | done | rfl | (simp only [List.length_drop, List.length_take]; rfl)) ?_
         with_reducible refine (impl_sizeBy.calls k2 _ _ l2 ((rd_T81 t451 x26_2).f0.f0.f0) ((rd_T81 t451 x26_2).f0.f0.f1) ((rd_T81 t451 x26_2).f0.f1) _ _ ((rd_T81 t451 x26_2).f1) t457 _ ?side1 ?side2 ?side3 ?side4 A27.out).mono ?_
         (case side1 => repeat (first | exact (Kd.C_below HR2.out HB.out) | (with_reducible refine Kd.C_alloc ?_ _) | (with_reducible refine Kd.C_drewN ?_ _) | (with_reducible refine Kd.C_drew ?_)))
         (case side2 => exact HC2.out)
         (case side3 => repeat (first | exact ((Kd.R_reads' (rr_ HL454_3)).2.2) | (with_reducible refine Kd.C_alloc ?_ _) | (with_reducible refine Kd.C_drewN ?_ _) | (with_reducible refine Kd.C_drew ?_)))
         (case side4 => exact HC454_3.out)
         rintro e w36 ⟨rfl, hb⟩
         refine ⟨_, rfl, ?_⟩
         replace HO_24 := aa_ (Kd.S_below (rs_ HO_24) hb)
         replace HL454_3 := aa_ (Kd.R_below (rr_ HL454_3) hb)
         replace BK447 := bkb_ BK447 hb
         replace BK449 := bkb_ BK449 hb
         replace BK455 := bkb_ BK455 hb
         replace HB := hbs_ hb
         (try clear hb)
         (try clear hb2)
         (try clear hk)
         (try clear hi)
         refine hK.out _ _ ⟨(blk_cell BK455.out 0).trans rfl, (blk_cell BK455.out 1).trans rfl, (blk_cell BK455.out 2).trans rfl, (blk_cell BK455.out 3).trans rfl, (cb_ HB hw456_0 :), (cb_ HB hw456_1 :), (cb_ HB hw456_2 :), (cb_ HB hw458_0 :)⟩ (fun hHeld => ?_)
         clear hK K
         refine norm_ (a' := ?_) ?_ ?_
         rotate_left
         ·show Act.put _ (some 40) _ = _
          simp only [Act.put, sb_, sz_, ss_, i64_w, i32_w]
          rfl
         refine pz_ 15 45 (ba_ 17 65535) (ao_ HT_) ?_
         refine pz_ 16 46 (ba_ 17 131071) (ao_ HT_) ?_
         refine done_ (done_of HT_.out (by kernel_rfl)) ?_
         go_upto_if 46 with (fail)
         have H := HC29.out
         clear HC29
         by_cases c37 : t457 = (rd l2 a3)
         ·rw [if_pos c37] at H
          have c37b0 : (t457 == (rd l2 a3)) = true := beq_iff_eq.mpr c37
          have c37b1 : (t457 != (rd l2 a3)) = false := bne_eq_false_iff_eq.mpr c37
          clear c37
          (first | rw [c37b0] | (simp only [i64_w, i32_w]; rw [c37b0]) | skip)
          simp only [Option.some.injEq, Prod.mk.injEq] at H
          obtain ⟨rfl, rfl, rfl, rfl, rfl, rfl, rfl, rfl, rfl, rfl, rfl, rfl, rfl, rfl⟩ := H
          have hnb38 := NB449_447.out
          have hnc38 := NB447_449.out
          have hnb39 := NB449_455.out
          have hnc39 := NB455_449.out
          have hcz40 := blk_cell BK449.out
          have hfz40 := blk_frozen BK449.out
          have hnb41 := NB455_447.out
          have hnc41 := NB447_455.out
          have hcz42 := blk_cell BK455.out
          have hfz42 := blk_frozen BK455.out
          have hcz43 := blk_cell BK447.out
          have hfz43 := blk_frozen BK447.out
          go_wp2
          refine bodyPost_ret (results_cell_row rfl _ _ gb447 58 #[.int .i64 ((rd_T35 l0 x15_1).f0), .int .i64 ((rd_T35 l0 x15_1).f1.f0), .int .i64 ((rd_T35 l0 x15_1).f1.f1), .int .i64 ((rd_T35 l0 x15_1).f2), .int .i64 ((rd_T35 l0 x15_1).f3.f0), .int .i64 ((rd_T35 l0 x15_1).f3.f1), .int .i64 ((rd_T35 l0 x15_1).f4.f0), .int .i64 ((rd_T35 l0 x15_1).f4.f1), .int .i64 ((rd_T35 l0 x15_1).f5), .int .i64 ((rd_T35 l0 x15_1).f6), .int .i64 ((rd_T81 t451 x26_2).f0.f0.f0), .int .i64 ((rd_T81 t451 x26_2).f0.f0.f1), .int .i64 ((rd_T81 t451 x26_2).f0.f1), .slice A454_3 ((rd_T81 t451 x26_2).f1).length c454_3] (0, 0) _ rfl (bk_ BK447) Try.underlying58 rfl (by kernel_rfl)) rfl ?_
          exact ⟨_, eq_, by (with_reducible repeat (first | apply Kd.R_alloc | apply Kd.R_drewN | apply Kd.R_drew)); exact Kd.R_mono (fr14_ (Kd.R_types HL454_3.out BK447.out (by decide)) (fun _ hk => hk.2)) (fun _ hk => trivial), bl_⟩
         ·rw [if_neg c37] at H
          have c37b0 : (t457 == (rd l2 a3)) = false := beq_eq_false_iff_ne.mpr c37
          have c37b1 : (t457 != (rd l2 a3)) = true := bne_iff_ne.mpr c37
          (first | rw [c37b0] | (simp only [i64_w, i32_w]; rw [c37b0]) | skip)
          have H' := aa_ H
          clear H
          go_wp2
          go_roundg k2
          case measure => have := HK1.out; have := HK2.out; omega
          case rel => exact ⟨(wrap64 (x26_2 + 1)), (x448000_2), (x448001_2), (x448002_2), (x448003_2), (x448004_2), (x448005_2), (x448006_2), (x448007_2), (x448008_2), (x448009_2), (x448010_2), (x448011_2), (x448012_2), rf_, H', ⟨by have := HK1.out; have := HK2.out; omega⟩, ⟨by (with_reducible repeat (first | apply Kd.S_alloc | apply Kd.S_drewN | apply Kd.S_drew)); exact Kd.S_mono HO_24.out (fun _ hk => trivial)⟩, ⟨bk_ BK447⟩, ⟨bk_ BK449⟩, ⟨bl_⟩⟩
        ·rw [if_neg c26] at H
         have c26b0 : ((((rd_T81 t451 x26_2).f0.f0.f0) == ((rd_T28 l1 a3).f0.f0) && (((rd_T81 t451 x26_2).f0.f0.f1) == ((rd_T28 l1 a3).f0.f1))) && (((rd_T81 t451 x26_2).f0.f1) == ((rd_T28 l1 a3).f1))) = false := by simpa using c26
         clear c26
         have H' := aa_ H
         clear H
         have p454 : 0 ≤ (x26_2 : Int) := od_
         have q454 : x26_2 < (t451.length : Int) := od_
         obtain ⟨ad454, A454_3, c454_3, e454, hx454_0, hx454_1, hx454_2, hx454_3, hl454_3, hi454_3⟩ := at_T81 (Kd.S_reads' HO_24.out).2.2 x26_2 p454 q454
         cases e454
         obtain ⟨ce454, hce454, hMe454, hcc454⟩ := Kd.S_get HO_24.out z81 x26_2 p454 (by first | exact q454 | exact od_ | (have e_ := (Kd.S_reads' HO_24.out).1; omega))
         obtain ⟨ve454_3, rfl, ge454_3⟩ := k81_openM hMe454
         have hv454_3 := hcc454 3 _ rfl
         rw [add_field _ _ 3 (by omega)] at hv454_3
         replace hv454_3 := Option.some.inj (hv454_3.symm.trans hx454_3)
         rw [hv454_3] at ge454_3
         have HL454_3 := aa_ (show Kd.R (Kd.int .i64) 3 _ _ _ _ ((rd_T81 t451 x26_2).f1) from ge454_3)
         clear hv454_3 ge454_3
         clear hcc454 hce454
         have HR454_3 := aa_ hi454_3
         have HC454_3 := aa_ hl454_3
         clear hi454_3 hl454_3
         replace p454 := eq_true p454
         replace q454 := eq_true q454
         try go_wp2_with (first | ((with_reducible refine gD_ 12 rfl ?_); refine bx_ (N := 12) (cs := #[.int .i64 0, .int .i64 0, .int .i64 0, .slice none 0 0]) (t := 81) ?_; intro gb455 hg w44 hbox hb; replace HO_24 := aa_ (Kd.S_below (Kd.S_elderB (rs_ HO_24) gb455 (Nat.le_of_eq hg.symm)) hb); replace HL454_3 := aa_ (Kd.R_below (rr_ HL454_3) hb); replace HR454_3 := aa_ (Kd.C_below (by repeat (first | (with_reducible exact HR454_3.out) | (with_reducible refine Kd.C_alloc ?_ _) | (with_reducible refine Kd.C_drewN ?_ _) | (with_reducible refine Kd.C_drew ?_) | exact HR454_3.out)) hb); have BK455 := aa_ (hbox); have GW455 := gs_ hg; have GE455 := gs_ hg; replace HB := hbs_ hb; have NB447_455 := nl_ hg BK447; have NB455_447 := nr_ hg BK447; replace BK447 := bkb_ BK447 hb; have NB449_455 := nl_ hg BK449; have NB455_449 := nr_ hg BK449; replace BK449 := bkb_ BK449 hb; clear hb hbox hg; have hnb45 := NB455_447.out; have hnc45 := NB447_455.out; have hnb46 := NB455_449.out; have hnc46 := NB449_455.out; obtain ⟨hcz47, hfz47⟩ := bcf_ BK455))
         have n0_ : Aside0 (Kd.S k81 81 ((((w44.setCell ⟨gb455, 0, none⟩ (.int .i64 ((rd_T81 t451 x26_2).f0.f0.f0))).setCell ⟨gb455, 1, none⟩ (.int .i64 ((rd_T81 t451 x26_2).f0.f0.f1))).setCell ⟨gb455, 2, none⟩ (.int .i64 ((rd_T81 t451 x26_2).f0.f1))).setCell ⟨gb455, 3, none⟩ (.slice A454_3 ((rd_T81 t451 x26_2).f1).length c454_3)) w.heap.size (fun k_ => k_ ≠ gb455) (.slice (some ad454) t451.length co20) t451) := ⟨by (with_reducible repeat (first | apply Kd.S_alloc | apply Kd.S_drewN | apply Kd.S_drew)); exact Kd.S_mono (fs4_ (Kd.S_mono HO_24.out (fun k_ hk => (⟨hk, hk.2⟩ : _ ∧ k_ ≠ gb455))) (fun _ hk => hk.2)) (fun _ hk => hk.1.2)⟩
         have n1_ : Aside0 (Kd.R (Kd.int .i64) 3 ((((w44.setCell ⟨gb455, 0, none⟩ (.int .i64 ((rd_T81 t451 x26_2).f0.f0.f0))).setCell ⟨gb455, 1, none⟩ (.int .i64 ((rd_T81 t451 x26_2).f0.f0.f1))).setCell ⟨gb455, 2, none⟩ (.int .i64 ((rd_T81 t451 x26_2).f0.f1))).setCell ⟨gb455, 3, none⟩ (.slice A454_3 ((rd_T81 t451 x26_2).f1).length c454_3)) w.heap.size (fun k_ => some k_ ≠ (.slice (some ad454) t451.length co20 : Value).ownBlock) (.slice A454_3 ((rd_T81 t451 x26_2).f1).length c454_3) ((rd_T81 t451 x26_2).f1)) := ⟨by (with_reducible repeat (first | apply Kd.R_alloc | apply Kd.R_drewN | apply Kd.R_drew)); exact Kd.R_mono (fr4_ (Kd.R_types HL454_3.out BK455.out (by decide)) (fun _ hk => hk.2)) (fun _ hk => hk.1.2)⟩
         have n2_ : Aside0 (((((w44.setCell ⟨gb455, 0, none⟩ (.int .i64 ((rd_T81 t451 x26_2).f0.f0.f0))).setCell ⟨gb455, 1, none⟩ (.int .i64 ((rd_T81 t451 x26_2).f0.f0.f1))).setCell ⟨gb455, 2, none⟩ (.int .i64 ((rd_T81 t451 x26_2).f0.f1))).setCell ⟨gb455, 3, none⟩ (.slice A454_3 ((rd_T81 t451 x26_2).f1).length c454_3)).heap[gb447]? = some (.cells #[.int .i64 x448000_2, .int .i64 x448001_2, .int .i64 x448002_2, .int .i64 x448003_2, .int .i64 x448004_2, .int .i64 x448005_2, .int .i64 x448006_2, .int .i64 x448007_2, .int .i64 x448008_2, .int .i64 x448009_2, .int .i64 x448010_2, .int .i64 x448011_2, .int .i64 x448012_2, .slice none 0 0] 58 (0, 0))) := ⟨bk_ BK447⟩
         have n3_ : Aside0 (((((w44.setCell ⟨gb455, 0, none⟩ (.int .i64 ((rd_T81 t451 x26_2).f0.f0.f0))).setCell ⟨gb455, 1, none⟩ (.int .i64 ((rd_T81 t451 x26_2).f0.f0.f1))).setCell ⟨gb455, 2, none⟩ (.int .i64 ((rd_T81 t451 x26_2).f0.f1))).setCell ⟨gb455, 3, none⟩ (.slice A454_3 ((rd_T81 t451 x26_2).f1).length c454_3)).heap[gb449]? = some (.cells #[.int .i64 ((rd_T35 l0 x15_1).f0), .int .i64 ((rd_T35 l0 x15_1).f1.f0), .int .i64 ((rd_T35 l0 x15_1).f1.f1), .int .i64 ((rd_T35 l0 x15_1).f2), .int .i64 ((rd_T35 l0 x15_1).f3.f0), .int .i64 ((rd_T35 l0 x15_1).f3.f1), .int .i64 ((rd_T35 l0 x15_1).f4.f0), .int .i64 ((rd_T35 l0 x15_1).f4.f1), .int .i64 ((rd_T35 l0 x15_1).f5), .int .i64 ((rd_T35 l0 x15_1).f6)] 35 (0, 0))) := ⟨bk_ BK449⟩
         have n4_ : Aside0 (((((w44.setCell ⟨gb455, 0, none⟩ (.int .i64 ((rd_T81 t451 x26_2).f0.f0.f0))).setCell ⟨gb455, 1, none⟩ (.int .i64 ((rd_T81 t451 x26_2).f0.f0.f1))).setCell ⟨gb455, 2, none⟩ (.int .i64 ((rd_T81 t451 x26_2).f0.f1))).setCell ⟨gb455, 3, none⟩ (.slice A454_3 ((rd_T81 t451 x26_2).f1).length c454_3)).heap[gb455]? = some (.cells #[.int .i64 ((rd_T81 t451 x26_2).f0.f0.f0), .int .i64 ((rd_T81 t451 x26_2).f0.f0.f1), .int .i64 ((rd_T81 t451 x26_2).f0.f1), .slice A454_3 ((rd_T81 t451 x26_2).f1).length c454_3] 81 (0, 0))) := ⟨bk_ BK455⟩
         have n5_ : Aside0 (Below w.heap.size w ((((w44.setCell ⟨gb455, 0, none⟩ (.int .i64 ((rd_T81 t451 x26_2).f0.f0.f0))).setCell ⟨gb455, 1, none⟩ (.int .i64 ((rd_T81 t451 x26_2).f0.f0.f1))).setCell ⟨gb455, 2, none⟩ (.int .i64 ((rd_T81 t451 x26_2).f0.f1))).setCell ⟨gb455, 3, none⟩ (.slice A454_3 ((rd_T81 t451 x26_2).f1).length c454_3))) := ⟨bl_⟩
         (try clear HO_24)
         (try clear HL454_3)
         (try clear BK447)
         (try clear BK449)
         (try clear BK455)
         (try clear HB)
         generalize ((((w44.setCell ⟨gb455, 0, none⟩ (.int .i64 ((rd_T81 t451 x26_2).f0.f0.f0))).setCell ⟨gb455, 1, none⟩ (.int .i64 ((rd_T81 t451 x26_2).f0.f0.f1))).setCell ⟨gb455, 2, none⟩ (.int .i64 ((rd_T81 t451 x26_2).f0.f1))).setCell ⟨gb455, 3, none⟩ (.slice A454_3 ((rd_T81 t451 x26_2).f1).length c454_3)) = w48 at n0_ n1_ n2_ n3_ n4_ n5_ ⊢
         have HO_24 := n0_
         have HL454_3 := n1_
         have BK447 := n2_
         have BK449 := n3_
         have BK455 := n4_
         have HB := n5_
         clear n0_ n1_ n2_ n3_ n4_ n5_
         replace HO_24 := aa_ (Kd.S_drew HO_24.out)
         replace HL454_3 := aa_ (Kd.R_drew HL454_3.out)
         replace BK447 := aa_ (blk_drew BK447.out)
         replace BK449 := aa_ (blk_drew BK449.out)
         replace BK455 := aa_ (blk_drew BK455.out)
         replace HB := aa_ (below_drew1 HB.out)
         have p456 : 0 ≤ (a3 : Int) := od_
         have q456 : a3 < (l1.length : Int) := od_
         obtain ⟨ad456, e456, hx456_0, hx456_1, hx456_2⟩ := at_T28 HR1.out a3 p456 q456
         have hw456_2 := hx456_2
         have hw456_1 := hx456_1
         have hw456_0 := hx456_0
         cases e456
         replace hx456_0 := cb_ HB hx456_0
         replace hx456_1 := cb_ HB hx456_1
         replace hx456_2 := cb_ HB hx456_2
         replace p456 := eq_true p456
         replace q456 := eq_true q456
         refine start_ (n := 17) (S := fun w' => w'.cell? ⟨gb455, 0, none⟩ = some (.int .i64 ((rd_T81 t451 x26_2).f0.f0.f0)) ∧ w'.cell? ⟨gb455, 1, none⟩ = some (.int .i64 ((rd_T81 t451 x26_2).f0.f0.f1)) ∧ w'.cell? ⟨gb455, 2, none⟩ = some (.int .i64 ((rd_T81 t451 x26_2).f0.f1)) ∧ w'.cell? ⟨gb455, 3, none⟩ = some (.slice A454_3 ((rd_T81 t451 x26_2).f1).length c454_3) ∧ w'.cell? (ad456.add ((a3).toNat * 3)) = some (.int .i64 ((rd_T28 l1 a3).f0.f0)) ∧ w'.cell? ⟨(ad456.add ((a3).toNat * 3)).block, (ad456.add ((a3).toNat * 3)).off + 1, none⟩ = some (.int .i64 ((rd_T28 l1 a3).f0.f1)) ∧ w'.cell? ⟨(ad456.add ((a3).toNat * 3)).block, (ad456.add ((a3).toNat * 3)).off + 2, none⟩ = some (.int .i64 ((rd_T28 l1 a3).f1))) (ds := []) (ba_ 17 0) (by kernel_rfl) rfl rfl ⟨(blk_cell BK455.out 0).trans rfl, (blk_cell BK455.out 1).trans rfl, (blk_cell BK455.out 2).trans rfl, (blk_cell BK455.out 3).trans rfl, (cb_ HB hw456_0 :), (cb_ HB hw456_1 :), (cb_ HB hw456_2 :)⟩ (fun hHeld => ?_); refine with_tabW impl_leastStep.tab8 impl_leastStep.bits8 (fun HT_ HW_ => ?_)
         generalize w48.drew = w49 at HO_24 HL454_3 BK447 BK449 BK455 HB hx456_0 hx456_1 hx456_2 hHeld ⊢
         refine pz_ 0 30 (ba_ 17 1) (ao_ HT_) ?_
         refine pz_ 2 32 (ba_ 17 5) (ao_ HT_) ?_
         refine pz_ 3 33 (ba_ 17 13) (ao_ HT_) ?_
         refine pz_ 4 34 (ba_ 17 29) (ao_ HT_) ?_
         refine tz_ 1 31 (ba_ 17 31) (take_ofW HT_.out HW_.out (by kernel_rfl)) hHeld ?_
         refine tz_ 5 35 (ba_ 17 63) (take_ofW HT_.out HW_.out (by kernel_rfl)) hHeld ?_
         refine pz_ 6 36 (ba_ 17 127) (ao_ HT_) ?_
         refine pz_ 7 37 (ba_ 17 255) (ao_ HT_) ?_
         refine pv_ 8 38 (a' := ?_) (ba_ 17 511) (ao_ HT_) ?_ ?_
         rotate_left
         ·simp only [Act.put, sb_, sz_, ss_, i64_w, i32_w]
          rfl
         refine pv_ 9 39 (a' := ?_) (ba_ 17 1023) (ao_ HT_) ?_ ?_
         rotate_left
         ·simp only [Act.put, sb_, sz_, ss_, i64_w, i32_w]
          rfl
         refine pv_ 10 40 (a' := ?_) (ba_ 17 2047) (ao_ HT_) ?_ ?_
         rotate_left
         ·simp only [Act.put, sb_, sz_, ss_, i64_w, i32_w]
          rfl
         refine pv_ 11 41 (a' := ?_) (ba_ 17 4095) (ao_ HT_) ?_ ?_
         rotate_left
         ·simp only [Act.put, sb_, sz_, ss_, i64_w, i32_w]
          rfl
         refine pv_ 12 42 (a' := ?_) (ba_ 17 8191) (ao_ HT_) ?_ ?_
         rotate_left
         ·simp only [Act.put, sb_, sz_, ss_, i64_w, i32_w]
          rfl
         refine pv_ 13 43 (a' := ?_) (ba_ 17 16383) (ao_ HT_) ?_ ?_
         rotate_left
         ·simp only [Act.put, sb_, sz_, ss_, i64_w, i32_w]
          rfl
         refine pv_ 14 44 (a' := ?_) (ba_ 17 32767) (ao_ HT_) ?_ ?_
         rotate_left
         ·simp only [Act.put, sb_, sz_, ss_, i64_w, i32_w]
          rfl
         refine pv_ 15 45 (a' := ?_) (ba_ 17 65535) (ao_ HT_) ?_ ?_
         rotate_left
         ·simp only [Act.put, sb_, sz_, ss_, i64_w, i32_w]
          rfl
         refine pz_ 16 46 (ba_ 17 131071) (ao_ HT_) ?_
         refine done_ (done_of HT_.out (by kernel_rfl)) ?_
         try go_wp2
         go_roundg k2
         case measure => have := HK1.out; have := HK2.out; omega
         case rel => exact ⟨(wrap64 (x26_2 + 1)), (x448000_2), (x448001_2), (x448002_2), (x448003_2), (x448004_2), (x448005_2), (x448006_2), (x448007_2), (x448008_2), (x448009_2), (x448010_2), (x448011_2), (x448012_2), rf_, H', ⟨by have := HK1.out; have := HK2.out; omega⟩, ⟨by (with_reducible repeat (first | apply Kd.S_alloc | apply Kd.S_drewN | apply Kd.S_drew)); exact Kd.S_mono HO_24.out (fun _ hk => trivial)⟩, ⟨bk_ BK447⟩, ⟨bk_ BK449⟩, ⟨bl_⟩⟩
       ·rw [if_neg c21] at H
        have c21b0 : decide (x26_2 < (t451.length : Int)) = false := decide_eq_false c21
        clear c21
        (first | rw [c21b0] | (simp only [i64_w, i32_w]; rw [c21b0]) | (have cz_ := c21b0; simp only [Int.ofNat_lt, Int.ofNat_le, gt_iff_lt, ge_iff_le] at cz_; rw [cz_]; clear cz_) | skip)
        have H' := aa_ H
        clear H
        go_wp2
        go_roundg k2
        case measure => have := HK1.out; have := HK2.out; omega
        case rel => exact ⟨(wrap64 (x15_1 + 1)), (x448000_2), (x448001_2), (x448002_2), (x448003_2), (x448004_2), (x448005_2), (x448006_2), (x448007_2), (x448008_2), (x448009_2), (x448010_2), (x448011_2), (x448012_2), rf_, H', ⟨by have := HK1.out; have := HK2.out; omega⟩, ⟨bk_ BK447⟩, ⟨bl_⟩⟩
    ·replace c15 := Bool.eq_false_iff.mpr c15
     subst c15
     replace H := ite_f_ H
     have H' := aa_ H
     clear H
     go_wp2
     go_roundg k1
     case measure => have := HK1.out; omega
     case rel => exact ⟨(wrap64 (x15_1 + 1)), (x448000_1), (x448001_1), (x448002_1), (x448003_1), (x448004_1), (x448005_1), (x448006_1), (x448007_1), (x448008_1), (x448009_1), (x448010_1), (x448011_1), (x448012_1), rf_, H', ⟨by have := HK1.out; omega⟩, ⟨bk_ BK447⟩, ⟨bl_⟩⟩
   ·rw [if_neg c6] at H
    have c6b0 : decide (x15_1 < (l0.length : Int)) = false := decide_eq_false c6
    clear c6
    simp only [Option.some.injEq, Prod.mk.injEq] at H
    obtain ⟨rfl, rfl, rfl, rfl, rfl, rfl, rfl, rfl, rfl, rfl, rfl, rfl, rfl, rfl⟩ := H
    have hcz50 := blk_cell BK447.out
    have hfz50 := blk_frozen BK447.out
    go_wp2
    refine bodyPost_ret (results_cell_row rfl _ _ gb447 58 #[.int .i64 0, .int .i64 0, .int .i64 0, .int .i64 0, .int .i64 0, .int .i64 0, .int .i64 0, .int .i64 0, .int .i64 0, .int .i64 0, .int .i64 0, .int .i64 0, .int .i64 0, .slice none 0 0] (0, 0) _ rfl (bk_ BK447) Try.underlying58 rfl (by kernel_rfl)) rfl ?_
    exact ⟨_, eq_, by first | exact Kd.R_nil _ _ _ _ _ | exact Kd.N_nil _ _ _ _ _ | exact Kd.V_nil _ _ _ _ _ | exact Kd.Q_nil _ _ _ _ _ | exact Kd.S_nil _ _ _ _ _, bl_⟩
end Go.Proofs.Ytljhfomkakhflaa.PA
