import Derived.Test.YtjpjidgfcljpcaaKRPAx0
-- printed by wip/tools
namespace Go.Proofs.Ytjpjidgfcljpcaa.PA
open Go.RowKit Go.Proofs.YtjpjidgfcljpcaaW.PrintWords Go.Proofs.YtjpjidgfcljpcaaW.PrintLast Go.Proofs.YtjpjidgfcljpcaaW.PrintMore
attribute [local go_sem] max2_int min2_int max_two min_two max_three min_three max_four min_four
set_option linter.unusedVariables false
set_option linter.unusedSimpArgs false
def laws_big.f (l0 : List Int) : Option (Bool) := some (decide ((l0.length : Int) > 1048576))
set_option maxHeartbeats 8000000 in
set_option maxRecDepth 100000 in
theorem laws_big.calls (A0 : Option Addr) (c0 : Nat) (l0 : List Int) (r : Bool) (w : World) (hr0 : Kd.C (Kd.int .u8) w A0 l0.length l0) (hc0 : l0.length ≤ c0) (h : laws_big.f l0 = some r) :
  Calls Try.prog 34 #[.slice A0 l0.length c0] w fun e w' => e = .returned (.bool r) ∧ Drawn0 w w' := by
 have HR0 := Aside0.mk hr0
 have HC0 := Aside0.mk hc0
 clear hr0 hc0
 have H : (some (decide ((l0.length : Int) > 1048576))) = some r := h
 clear h
 obtain rfl := Option.some.inj H
 go_enter Try.func34, Try.ntmps34
 go_wp2
 go_ret
 exact ⟨by first | rfl | (simp; done) | (simp [*]; done), by repeat (first | exact Drawn0.refl _ | apply Drawn0.step)⟩
def IsS201 (w0 W : World) (g : Nat) (f0 : List Int) (f1 : Int) (f2 : Int) : Prop := ∃ A0 c0, W.heap[g]? = some (.cells #[.slice A0 f0.length c0, .int .i64 f1, .int .i64 f2] 201 (0, 0)) ∧ w0.heap.size ≤ g ∧ Kd.C (Kd.int .u8) w0 A0 f0.length f0
theorem IsS201.grown {w0 W : World} {g : Nat} {f0 : List Int} {f1 : Int} {f2 : Int} {W1 : World} {row : Option Nat} (h : IsS201 w0 W g f0 f1 f2) (hw : W.grownBy W1 row) (hne : some g ≠ row) : IsS201 w0 W1 g f0 f1 f2 := by
 obtain ⟨A0, c0, hb, hg, hr0⟩ := h
 exact ⟨A0, c0, blk_grown hb hw hne, hg, hr0⟩
theorem IsS201.kept {w0 W : World} {g : Nat} {f0 : List Int} {f1 : Int} {f2 : Int} {W1 : World} {S : Nat → Prop} (h : IsS201 w0 W g f0 f1 f2) (hk : Kept W W1 S) (hne : ¬ S g) : IsS201 w0 W1 g f0 f1 f2 := by
 obtain ⟨A0, c0, hb, hg, hr0⟩ := h
 exact ⟨A0, c0, blk_kept hb hk hne, hg, hr0⟩
theorem IsS201.below {w0 W : World} {g : Nat} {f0 : List Int} {f1 : Int} {f2 : Int} {W1 : World} (h : IsS201 w0 W g f0 f1 f2) (hw : Below W.heap.size W W1) : IsS201 w0 W1 g f0 f1 f2 := h.grown (grown_of_below hw none) (by simp)
theorem IsS201.alloc {w0 W : World} {g : Nat} {f0 : List Int} {f1 : Int} {f2 : Int} (h : IsS201 w0 W g f0 f1 f2) (o : Obj) : IsS201 w0 (W.alloc o) g f0 f1 f2 := h.below (below_alloc (Below.refl _ _) o)
theorem IsS201.drewN {w0 W : World} {g : Nat} {f0 : List Int} {f1 : Int} {f2 : Int} (h : IsS201 w0 W g f0 f1 f2) (m : Nat) : IsS201 w0 (W.drewN m) g f0 f1 f2 := h
theorem IsS201.drew {w0 W : World} {g : Nat} {f0 : List Int} {f1 : Int} {f2 : Int} (h : IsS201 w0 W g f0 f1 f2) : IsS201 w0 W.drew g f0 f1 f2 := h
theorem IsS201.at_ {w0 W : World} {g : Nat} {f0 : List Int} {f1 : Int} {f2 : Int} {w' : World} {m : Nat} (hq : W.drewN m = w') (h : IsS201 w0 W g f0 f1 f2) : IsS201 w0 w' g f0 f1 f2 := by subst hq; exact IsS201.drewN h m
theorem IsS201.apart {w0 W : World} {g : Nat} {f0 : List Int} {f1 : Int} {f2 : Int} {α : Type} {d : Kd α} {e : Nat} {base : Nat} {ok : Nat → Prop} {v : Value} {xs : List α} (h : IsS201 w0 W g f0 f1 f2) (ho : d.R e W base ok v xs) (ht : ∀ q, q ∈ e :: d.E → q ≠ 201) : d.R e W base (fun k => ok k ∧ k ≠ g) v xs := by
 obtain ⟨A0, c0, hb, hg, hr0⟩ := h
 exact Kd.R_types ho hb ht
theorem IsS201.own_ne {w0 W : World} {g : Nat} {f0 : List Int} {f1 : Int} {f2 : Int} {α : Type} {d : Kd α} {e : Nat} {base : Nat} {ok : Nat → Prop} {v : Value} {xs : List α} (h : IsS201 w0 W g f0 f1 f2) (ho : d.R e W base ok v xs) (ht : e ≠ 201) : some g ≠ v.ownBlock := by
 obtain ⟨A0, c0, hb, hg, hr0⟩ := h
 exact Kd.R_ne ho hb ht
theorem IsS201.lt {w0 W : World} {g : Nat} {f0 : List Int} {f1 : Int} {f2 : Int} (h : IsS201 w0 W g f0 f1 f2) : g < W.heap.size := by
 obtain ⟨A0, c0, hb, hg, hr0⟩ := h
 exact blk_lt hb
theorem IsS201.ge {w0 W : World} {g : Nat} {f0 : List Int} {f1 : Int} {f2 : Int} (h : IsS201 w0 W g f0 f1 f2) : w0.heap.size ≤ g := by
 obtain ⟨A0, c0, hb, hg, hr0⟩ := h
 exact hg
theorem IsS201.far {w0 W : World} {g : Nat} {f0 : List Int} {f1 : Int} {f2 : Int} {p : Addr} (h : IsS201 w0 W g f0 f1 f2) (hne : g ≠ p.block) (u : Value) : IsS201 w0 (W.setCell p u) g f0 f1 f2 := by
 obtain ⟨A0, c0, hb, hg, hr0⟩ := h
 exact ⟨A0, c0, blk_far hb hne u, hg, hr0⟩
theorem cellS201_0 {W : World} {g : Nat} {A0 : Option Addr} {c0 : Nat} {f0 : List Int} {f1 : Int} {f2 : Int} (h : W.heap[g]? = some (.cells #[.slice A0 f0.length c0, .int .i64 f1, .int .i64 f2] 201 (0, 0))) : W.cell? ⟨g, 0, none⟩ = some (.slice A0 f0.length c0) := (blk_cell h 0).trans rfl
theorem cellS201_1 {W : World} {g : Nat} {A0 : Option Addr} {c0 : Nat} {f0 : List Int} {f1 : Int} {f2 : Int} (h : W.heap[g]? = some (.cells #[.slice A0 f0.length c0, .int .i64 f1, .int .i64 f2] 201 (0, 0))) : W.cell? ⟨g, 1, none⟩ = some (.int .i64 f1) := (blk_cell h 1).trans rfl
theorem IsS201.set_1 {w0 W : World} {g : Nat} {f0 : List Int} {f1 : Int} {f2 : Int} (h : IsS201 w0 W g f0 f1 f2) (x : Int) : IsS201 w0 (W.setCell ⟨g, 1, none⟩ (.int .i64 x)) g f0 x f2 := by
 obtain ⟨A0, c0, hb, hg, hr0⟩ := h
 exact ⟨A0, c0, by simpa using blk_set hb 1 (.int .i64 x), hg, hr0⟩
theorem cellS201_2 {W : World} {g : Nat} {A0 : Option Addr} {c0 : Nat} {f0 : List Int} {f1 : Int} {f2 : Int} (h : W.heap[g]? = some (.cells #[.slice A0 f0.length c0, .int .i64 f1, .int .i64 f2] 201 (0, 0))) : W.cell? ⟨g, 2, none⟩ = some (.int .i64 f2) := (blk_cell h 2).trans rfl
theorem IsS201.set_2 {w0 W : World} {g : Nat} {f0 : List Int} {f1 : Int} {f2 : Int} (h : IsS201 w0 W g f0 f1 f2) (x : Int) : IsS201 w0 (W.setCell ⟨g, 2, none⟩ (.int .i64 x)) g f0 f1 x := by
 obtain ⟨A0, c0, hb, hg, hr0⟩ := h
 exact ⟨A0, c0, by simpa using blk_set hb 2 (.int .i64 x), hg, hr0⟩
theorem IsS201.nw_ {w0 W : World} {g : Nat} {f0 : List Int} {f1 : Int} {f2 : Int} (h : IsS201 w0 W g f0 f1 f2 := by repeat (first | (with_reducible first | exact Aside0.out (by assumption) | apply IsS201.alloc | apply IsS201.drewN | apply IsS201.drew | apply IsS201.set_1 | apply IsS201.set_2 | refine IsS201.far ?_ (Aside0.out (by assumption)) _) | exact Aside0.out (by assumption))) : IsS201 w0 W g f0 f1 f2 := h
theorem IsS201.bw_ {w0 W : World} (h : Below w0.heap.size w0 W := by repeat (first | (with_reducible first | exact HB.out | apply below_alloc | apply pw_below_drewN | apply below_drew1 | refine below_set ?_ (IsS201.ge HI0.out) | refine below_set ?_ (Aside0.out (by assumption))) | exact HB.out)) : Below w0.heap.size w0 W := h
def spec_l01Byte.f (s0_0 : List Int) (s0_1 : Int) (s0_2 : Int) : Option (Int × Int × Int) := if s0_1 < (s0_0.length : Int) then (if 0 ≤ s0_1 then (some (Go.bits .and .i64 (wrap64 ((Go.bits .and .i64 (Go.bits .xor .i64 ((wrap64 ((wrap64 (s0_2 * 6364136223846793005)) + 1442695040888963407)) / 8589934592) ((wrap64 ((wrap64 (s0_2 * 6364136223846793005)) + 1442695040888963407)) / 35184372088832)) 255) + (wrap64 (rd s0_0 s0_1)))) 255, wrap64 (s0_1 + 1), wrap64 ((wrap64 (s0_2 * 6364136223846793005)) + 1442695040888963407))) else (none)) else (some (Go.bits .and .i64 (Go.bits .xor .i64 ((wrap64 ((wrap64 (s0_2 * 6364136223846793005)) + 1442695040888963407)) / 8589934592) ((wrap64 ((wrap64 (s0_2 * 6364136223846793005)) + 1442695040888963407)) / 35184372088832)) 255, s0_1, wrap64 ((wrap64 (s0_2 * 6364136223846793005)) + 1442695040888963407)))
set_option maxHeartbeats 8000000 in
set_option maxRecDepth 100000 in
theorem spec_l01Byte.calls (g : Nat) (s0_0 : List Int) (s0_1 : Int) (s0_2 : Int) (r1 : Int) (r2 : Int) (r3 : Int) (w0 w : World) (hI : IsS201 w0 w g s0_0 s0_1 s0_2) (hB : Below w0.heap.size w0 w) (h : spec_l01Byte.f s0_0 s0_1 s0_2 = some (r1, r2, r3)) :
  Calls Try.prog 130 #[.pointer (some ⟨g, 0, none⟩)] w fun e w' => e = .returned (.int .i64 r1) ∧ IsS201 w0 w' g s0_0 r2 r3 ∧ Below w0.heap.size w0 w' ∧ KeepBut w w' g none := by
 have HI0 := Aside0.mk hI
 have HK := Aside0.mk (KeepBut.refl w g none)
 have HL := Aside0.mk hB.size
 clear hI
 have HW0 := Aside0.mk hB.size
 have HB := Aside0.mk hB
 clear hB
 have H : (if s0_1 < (s0_0.length : Int) then (if 0 ≤ s0_1 then (some (Go.bits .and .i64 (wrap64 ((Go.bits .and .i64 (Go.bits .xor .i64 ((wrap64 ((wrap64 (s0_2 * 6364136223846793005)) + 1442695040888963407)) / 8589934592) ((wrap64 ((wrap64 (s0_2 * 6364136223846793005)) + 1442695040888963407)) / 35184372088832)) 255) + (wrap64 (rd s0_0 s0_1)))) 255, wrap64 (s0_1 + 1), wrap64 ((wrap64 (s0_2 * 6364136223846793005)) + 1442695040888963407))) else (none)) else (some (Go.bits .and .i64 (Go.bits .xor .i64 ((wrap64 ((wrap64 (s0_2 * 6364136223846793005)) + 1442695040888963407)) / 8589934592) ((wrap64 ((wrap64 (s0_2 * 6364136223846793005)) + 1442695040888963407)) / 35184372088832)) 255, s0_1, wrap64 ((wrap64 (s0_2 * 6364136223846793005)) + 1442695040888963407)))) = some (r1, r2, r3) := h
 clear h
 by_cases c2 : s0_1 < (s0_0.length : Int)
 ·rw [if_pos c2] at H
  have c2b0 : decide (s0_1 < (s0_0.length : Int)) = true := decide_eq_true c2
  clear c2
  obtain ⟨c3b0, H⟩ := ifd_ H
  simp only [Option.some.injEq, Prod.mk.injEq] at H
  obtain ⟨rfl, rfl, rfl⟩ := H
  obtain ⟨ASz4_0, cSz4_0, HGz4, hgz4, HSz4_0⟩ := HI0.out
  have hcz4_0 := cellS201_0 HGz4
  have hcz4_1 := cellS201_1 HGz4
  have hcz4_2 := cellS201_2 HGz4
  have hfz4_1 := blk_frozen HGz4 1
  have hfz4_2 := blk_frozen HGz4 2
  clear HGz4 hgz4
  have p662 : 0 ≤ (s0_1 : Int) := od_
  have q662 : s0_1 < (s0_0.length : Int) := od_
  obtain ⟨ad662, e662, hx662_0⟩ := Kd.at_int HSz4_0 s0_1 p662 q662
  cases e662
  have hn662_0 : ad662.block ≠ g := Nat.ne_of_lt (Nat.lt_of_lt_of_le (by have := World.block_lt_of_cell? _ _ hx662_0; first | rwa [add_block] at this | exact this) (IsS201.ge HI0.out))
  replace hx662_0 := pw_cell_below HB.out hx662_0
  replace hx662_0 := (cell_far (p := ⟨g, 2, none⟩) (by first | (rw [add_block]; exact hn662_0) | (show (Addr.add _ _).block ≠ _; rw [add_block]; exact hn662_0) | exact hn662_0) (.int .i64 (wrap64 ((wrap64 (s0_2 * 6364136223846793005)) + 1442695040888963407)))).trans hx662_0
  (try have hy662_0 := fun (n_ : Nat) => (show (((w.drewN n_).setCell ⟨g, 2, none⟩ (.int .i64 (wrap64 ((wrap64 (s0_2 * 6364136223846793005)) + 1442695040888963407))))).cell? _ = some _ from hx662_0))
  clear hn662_0
  replace p662 := eq_true p662
  replace q662 := eq_true q662
  go_enter Try.func130, Try.ntmps130
  go_wp2
  repeat (go_quiet (fail); try go_wp2)
  go_ret
  exact ⟨eq_, by exact IsS201.nw_, by exact IsS201.bw_, by exact kp_⟩
 ·rw [if_neg c2] at H
  have c2b0 : decide (s0_1 < (s0_0.length : Int)) = false := decide_eq_false c2
  clear c2
  simp only [Option.some.injEq, Prod.mk.injEq] at H
  obtain ⟨rfl, rfl, rfl⟩ := H
  obtain ⟨ASz5_0, cSz5_0, HGz5, hgz5, HSz5_0⟩ := HI0.out
  have hcz5_0 := cellS201_0 HGz5
  have hcz5_1 := cellS201_1 HGz5
  have hcz5_2 := cellS201_2 HGz5
  have hfz5_1 := blk_frozen HGz5 1
  have hfz5_2 := blk_frozen HGz5 2
  clear HGz5 hgz5
  go_enter Try.func130, Try.ntmps130
  go_wp2
  repeat (go_quiet (fail); try go_wp2)
  go_ret
  exact ⟨eq_, by exact IsS201.nw_, by exact IsS201.bw_, by exact kp_⟩
def spec_l01Below.f (s0_0 : List Int) (s0_1 : Int) (s0_2 : Int) (a1 : Int) : Option (Int × Int × Int) := if a1 ≤ 0 then (some (0, s0_1, s0_2)) else (if a1 ≤ 256 then ((spec_l01Byte.f s0_0 s0_1 s0_2).bind fun bt663 => (if a1 = 0 then (none) else (some (Int.tmod bt663.1 a1, bt663.2.1, bt663.2.2)))) else ((spec_l01Byte.f s0_0 s0_1 s0_2).bind fun bt666 => ((spec_l01Byte.f s0_0 bt666.2.1 bt666.2.2).bind fun bt669 => ((spec_l01Byte.f s0_0 bt669.2.1 bt669.2.2).bind fun bt672 => ((spec_l01Byte.f s0_0 bt672.2.1 bt672.2.2).bind fun bt675 => (if a1 = 0 then (none) else (some (Int.tmod (wrap64 ((wrap64 ((wrap64 ((wrap64 (bt666.1 * 16777216)) + (wrap64 (bt669.1 * 65536)))) + (wrap64 (bt672.1 * 256)))) + bt675.1)) a1, bt675.2.1, bt675.2.2))))))))
set_option maxHeartbeats 8000000 in
set_option maxRecDepth 100000 in
theorem spec_l01Below.calls (g : Nat) (s0_0 : List Int) (s0_1 : Int) (s0_2 : Int) (a1 : Int) (r1 : Int) (r2 : Int) (r3 : Int) (w0 w : World) (hI : IsS201 w0 w g s0_0 s0_1 s0_2) (hB : Below w0.heap.size w0 w) (h : spec_l01Below.f s0_0 s0_1 s0_2 a1 = some (r1, r2, r3)) :
  Calls Try.prog 110 #[.pointer (some ⟨g, 0, none⟩), .int .i64 a1] w fun e w' => e = .returned (.int .i64 r1) ∧ IsS201 w0 w' g s0_0 r2 r3 ∧ Below w0.heap.size w0 w' ∧ KeepBut w w' g none := by
 have HI0 := Aside0.mk hI
 have HK := Aside0.mk (KeepBut.refl w g none)
 have HL := Aside0.mk hB.size
 clear hI
 have HW0 := Aside0.mk hB.size
 have HB := Aside0.mk hB
 clear hB
 have H : (if a1 ≤ 0 then (some (0, s0_1, s0_2)) else (if a1 ≤ 256 then ((spec_l01Byte.f s0_0 s0_1 s0_2).bind fun bt663 => (if a1 = 0 then (none) else (some (Int.tmod bt663.1 a1, bt663.2.1, bt663.2.2)))) else ((spec_l01Byte.f s0_0 s0_1 s0_2).bind fun bt666 => ((spec_l01Byte.f s0_0 bt666.2.1 bt666.2.2).bind fun bt669 => ((spec_l01Byte.f s0_0 bt669.2.1 bt669.2.2).bind fun bt672 => ((spec_l01Byte.f s0_0 bt672.2.1 bt672.2.2).bind fun bt675 => (if a1 = 0 then (none) else (some (Int.tmod (wrap64 ((wrap64 ((wrap64 ((wrap64 (bt666.1 * 16777216)) + (wrap64 (bt669.1 * 65536)))) + (wrap64 (bt672.1 * 256)))) + bt675.1)) a1, bt675.2.1, bt675.2.2))))))))) = some (r1, r2, r3) := h
 clear h
 by_cases c3 : a1 ≤ 0
 ·rw [if_pos c3] at H
  have c3b0 : decide (a1 ≤ 0) = true := decide_eq_true c3
  clear c3
  simp only [Option.some.injEq, Prod.mk.injEq] at H
  obtain ⟨rfl, rfl, rfl⟩ := H
  go_enter Try.func110, Try.ntmps110
  go_wp2
  go_ret
  exact ⟨eq_, by exact IsS201.nw_, by exact IsS201.bw_, by exact kp_⟩
 ·rw [if_neg c3] at H
  have c3b0 : decide (a1 ≤ 0) = false := decide_eq_false c3
  clear c3
  by_cases c4 : a1 ≤ 256
  ·rw [if_pos c4] at H
   have c4b0 : decide (a1 ≤ 256) = true := decide_eq_true c4
   clear c4
   obtain ⟨⟨t663, t664, t665⟩, A5, H⟩ := bindE_ H
   replace H : (if a1 = 0 then (none) else (some (Int.tmod t663 a1, t664, t665))) = some (r1, r2, r3) := H
   by_cases c6 : a1 = 0
   ·rw [if_pos c6] at H
    exact absurd H (by simp)
   ·rw [if_neg c6] at H
    have c6b0 : (a1 == 0) = false := beq_eq_false_iff_ne.mpr c6
    have c6b1 : (a1 != 0) = true := bne_iff_ne.mpr c6
    simp only [Option.some.injEq, Prod.mk.injEq] at H
    obtain ⟨rfl, rfl, rfl⟩ := H
    go_enter Try.func110, Try.ntmps110
    go_wp2_with (first | ((with_reducible refine gate_callee (f := 130) rfl ?_); refine goesC_ (some 14) Try.func130 #[.pointer (some ⟨g, 0, none⟩)] ?_; (with_reducible refine (spec_l01Byte.calls g s0_0 s0_1 s0_2 t663 t664 t665 w0 _ ?side1 ?side2 A5.out).mono ?_); (case side1 => exact IsS201.nw_); (case side2 => exact IsS201.bw_); rintro e w7 ⟨rfl, hi, hb, hk⟩; refine ⟨_, rfl, ?_⟩; replace HK := Aside0.mk (KeepBut.trans (by exact kp_) hk (.inl rfl)); replace HB := Aside0.mk (hb); replace HI0 := Aside0.mk (hi); (try clear hb); (try clear hb2); (try clear hk); (try clear hi)))
    go_ret
    exact ⟨eq_, by exact IsS201.nw_, by exact IsS201.bw_, by exact kp_⟩
  ·rw [if_neg c4] at H
   have c4b0 : decide (a1 ≤ 256) = false := decide_eq_false c4
   clear c4
   obtain ⟨⟨t666, t667, t668⟩, A8, H⟩ := bindE_ H
   replace H : ((spec_l01Byte.f s0_0 t667 t668).bind fun bt669 => ((spec_l01Byte.f s0_0 bt669.2.1 bt669.2.2).bind fun bt672 => ((spec_l01Byte.f s0_0 bt672.2.1 bt672.2.2).bind fun bt675 => (if a1 = 0 then (none) else (some (Int.tmod (wrap64 ((wrap64 ((wrap64 ((wrap64 (t666 * 16777216)) + (wrap64 (bt669.1 * 65536)))) + (wrap64 (bt672.1 * 256)))) + bt675.1)) a1, bt675.2.1, bt675.2.2)))))) = some (r1, r2, r3) := H
   obtain ⟨⟨t669, t670, t671⟩, A9, H⟩ := bindE_ H
   replace H : ((spec_l01Byte.f s0_0 t670 t671).bind fun bt672 => ((spec_l01Byte.f s0_0 bt672.2.1 bt672.2.2).bind fun bt675 => (if a1 = 0 then (none) else (some (Int.tmod (wrap64 ((wrap64 ((wrap64 ((wrap64 (t666 * 16777216)) + (wrap64 (t669 * 65536)))) + (wrap64 (bt672.1 * 256)))) + bt675.1)) a1, bt675.2.1, bt675.2.2))))) = some (r1, r2, r3) := H
   obtain ⟨⟨t672, t673, t674⟩, A10, H⟩ := bindE_ H
   replace H : ((spec_l01Byte.f s0_0 t673 t674).bind fun bt675 => (if a1 = 0 then (none) else (some (Int.tmod (wrap64 ((wrap64 ((wrap64 ((wrap64 (t666 * 16777216)) + (wrap64 (t669 * 65536)))) + (wrap64 (t672 * 256)))) + bt675.1)) a1, bt675.2.1, bt675.2.2)))) = some (r1, r2, r3) := H
   obtain ⟨⟨t675, t676, t677⟩, A11, H⟩ := bindE_ H
   replace H : (if a1 = 0 then (none) else (some (Int.tmod (wrap64 ((wrap64 ((wrap64 ((wrap64 (t666 * 16777216)) + (wrap64 (t669 * 65536)))) + (wrap64 (t672 * 256)))) + t675)) a1, t676, t677))) = some (r1, r2, r3) := H
   by_cases c12 : a1 = 0
   ·rw [if_pos c12] at H
    exact absurd H (by simp)
   ·rw [if_neg c12] at H
    have c12b0 : (a1 == 0) = false := beq_eq_false_iff_ne.mpr c12
    have c12b1 : (a1 != 0) = true := bne_iff_ne.mpr c12
    simp only [Option.some.injEq, Prod.mk.injEq] at H
    obtain ⟨rfl, rfl, rfl⟩ := H
    go_enter Try.func110, Try.ntmps110
    go_wp2_with (first | ((with_reducible refine gate_callee (f := 130) rfl ?_); refine goesC_ (some 18) Try.func130 #[.pointer (some ⟨g, 0, none⟩)] ?_; (with_reducible refine (spec_l01Byte.calls g s0_0 s0_1 s0_2 t666 t667 t668 w0 _ ?side1 ?side2 A8.out).mono ?_); (case side1 => exact IsS201.nw_); (case side2 => exact IsS201.bw_); rintro e w13 ⟨rfl, hi, hb, hk⟩; refine ⟨_, rfl, ?_⟩; replace HK := Aside0.mk (KeepBut.trans (by exact kp_) hk (.inl rfl)); replace HB := Aside0.mk (hb); replace HI0 := Aside0.mk (hi); (try clear hb); (try clear hb2); (try clear hk); (try clear hi)) | ((with_reducible refine gate_callee (f := 130) rfl ?_); refine goesC_ (some 20) Try.func130 #[.pointer (some ⟨g, 0, none⟩)] ?_; (with_reducible refine (spec_l01Byte.calls g s0_0 t667 t668 t669 t670 t671 w0 _ ?side1 ?side2 A9.out).mono ?_); (case side1 => exact IsS201.nw_); (case side2 => exact IsS201.bw_); rintro e w14 ⟨rfl, hi, hb, hk⟩; refine ⟨_, rfl, ?_⟩; replace HK := Aside0.mk (KeepBut.trans (by exact kp_) hk (.inl rfl)); replace HB := Aside0.mk (hb); replace HI0 := Aside0.mk (hi); (try clear hb); (try clear hb2); (try clear hk); (try clear hi)) | ((with_reducible refine gate_callee (f := 130) rfl ?_); refine goesC_ (some 22) Try.func130 #[.pointer (some ⟨g, 0, none⟩)] ?_; (with_reducible refine (spec_l01Byte.calls g s0_0 t670 t671 t672 t673 t674 w0 _ ?side1 ?side2 A10.out).mono ?_); (case side1 => exact IsS201.nw_); (case side2 => exact IsS201.bw_); rintro e w15 ⟨rfl, hi, hb, hk⟩; refine ⟨_, rfl, ?_⟩; replace HK := Aside0.mk (KeepBut.trans (by exact kp_) hk (.inl rfl)); replace HB := Aside0.mk (hb); replace HI0 := Aside0.mk (hi); (try clear hb); (try clear hb2); (try clear hk); (try clear hi)) | ((with_reducible refine gate_callee (f := 130) rfl ?_); refine goesC_ (some 24) Try.func130 #[.pointer (some ⟨g, 0, none⟩)] ?_; (with_reducible refine (spec_l01Byte.calls g s0_0 t673 t674 t675 t676 t677 w0 _ ?side1 ?side2 A11.out).mono ?_); (case side1 => exact IsS201.nw_); (case side2 => exact IsS201.bw_); rintro e w16 ⟨rfl, hi, hb, hk⟩; refine ⟨_, rfl, ?_⟩; replace HK := Aside0.mk (KeepBut.trans (by exact kp_) hk (.inl rfl)); replace HB := Aside0.mk (hb); replace HI0 := Aside0.mk (hi); (try clear hb); (try clear hb2); (try clear hk); (try clear hi)))
    go_ret
    exact ⟨eq_, by exact IsS201.nw_, by exact IsS201.bw_, by exact kp_⟩
def spec_l05Role.f (s0_0 : List Int) (s0_1 : Int) (s0_2 : Int) : Option (Int × Int × Int × Int) := (spec_l01Below.f s0_0 s0_1 s0_2 3).bind fun bt679 => ((spec_l01Below.f s0_0 bt679.2.1 bt679.2.2 2).bind fun bt682 => (some (bt679.1, bt682.1, bt682.2.1, bt682.2.2)))
set_option maxHeartbeats 8000000 in
set_option maxRecDepth 100000 in
theorem spec_l05Role.calls (g : Nat) (s0_0 : List Int) (s0_1 : Int) (s0_2 : Int) (r1 : Int) (r2 : Int) (r3 : Int) (r4 : Int) (w0 w : World) (hI : IsS201 w0 w g s0_0 s0_1 s0_2) (hB : Below w0.heap.size w0 w) (h : spec_l05Role.f s0_0 s0_1 s0_2 = some (r1, r2, r3, r4)) :
  Calls Try.prog 179 #[.pointer (some ⟨g, 0, none⟩)] w fun e w' => e = .returned (.agg #[.int .i64 r1, .int .i64 r2]) ∧ IsS201 w0 w' g s0_0 r3 r4 ∧ Below w0.heap.size w0 w' ∧ KeepBut w w' g none := by
 have hu49 := Try.underlying49
 have HI0 := Aside0.mk hI
 have HK := Aside0.mk (KeepBut.refl w g none)
 have HL := Aside0.mk hB.size
 clear hI
 have HW0 := Aside0.mk hB.size
 have HB := Aside0.mk hB
 clear hB
 have H : ((spec_l01Below.f s0_0 s0_1 s0_2 3).bind fun bt679 => ((spec_l01Below.f s0_0 bt679.2.1 bt679.2.2 2).bind fun bt682 => (some (bt679.1, bt682.1, bt682.2.1, bt682.2.2)))) = some (r1, r2, r3, r4) := h
 clear h
 obtain ⟨⟨t679, t680, t681⟩, A2, H⟩ := bindE_ H
 replace H : ((spec_l01Below.f s0_0 t680 t681 2).bind fun bt682 => (some (t679, bt682.1, bt682.2.1, bt682.2.2))) = some (r1, r2, r3, r4) := H
 obtain ⟨⟨t682, t683, t684⟩, A3, H⟩ := bindE_ H
 replace H : (some (t679, t682, t683, t684)) = some (r1, r2, r3, r4) := H
 simp only [Option.some.injEq, Prod.mk.injEq] at H
 obtain ⟨rfl, rfl, rfl, rfl⟩ := H
 go_enter Try.func179, Try.ntmps179
 go_wp2_with (first | ((with_reducible refine gate_dst (N := 2) rfl ?_); refine box_event ?hg (N := 2) ?hd (cs := #[.int .i64 0, .int .i64 0]) (t := 49) ?hr ?_; (case hd => rfl); (case hg => rfl); (case hr => first | (go_simp; done) | (go_simp; rfl)); intro gb678 hg w4 hbox hb; replace HB := Aside0.mk (below_step (by exact IsS201.bw_) hb); have BK678 := Aside0.mk (hbox); have GW678 := Aside0.mk ((by rw [hg]; exact (keep_size (w := w) (g := g) (row := none) (by exact kp_)) : w.heap.size ≤ gb678)); have GE678 := Aside0.mk ((Nat.le_trans HW0.out (by rw [hg]; exact (keep_size (w := w) (g := g) (row := none) (by exact kp_)) : w.heap.size ≤ gb678) : w0.heap.size ≤ gb678)); replace HK := Aside0.mk (KeepBut.trans (by exact kp_) (KeepBut.of_below hb g none) (.inl rfl)); have NB0_678 := Aside0.mk ((by rw [hg]; exact Nat.ne_of_lt (IsS201.lt (show IsS201 w0 _ g s0_0 s0_1 s0_2 from by exact IsS201.nw_)) : g ≠ gb678)); have NB678_0 := Aside0.mk ((by rw [hg]; exact Nat.ne_of_gt (IsS201.lt (show IsS201 w0 _ g s0_0 s0_1 s0_2 from by exact IsS201.nw_)) : gb678 ≠ g)); replace HI0 := Aside0.mk (IsS201.below (by exact IsS201.nw_) hb); clear hb hbox hg) | ((with_reducible refine gate_callee (f := 110) rfl ?_); refine goesC_ (some 4) Try.func110 #[.pointer (some ⟨g, 0, none⟩), .int .i64 3] ?_; (with_reducible refine (spec_l01Below.calls g s0_0 s0_1 s0_2 3 t679 t680 t681 w0 _ ?side1 ?side2 A2.out).mono ?_); (case side1 => exact IsS201.nw_); (case side2 => exact IsS201.bw_); rintro e w5 ⟨rfl, hi, hb, hk⟩; refine ⟨_, rfl, ?_⟩; replace BK678 := Aside0.mk (KeepBut.blk hk (g' := gb678) (o := .cells #[.int .i64 0, .int .i64 0] 49 (0, 0)) (bk_ BK678) NB678_0.out (by simp)); replace HK := Aside0.mk (KeepBut.trans (by exact kp_) hk (.inl rfl)); replace HB := Aside0.mk (hb); replace HI0 := Aside0.mk (hi); (try clear hb); (try clear hb2); (try clear hk); (try clear hi)) | ((with_reducible refine gate_callee (f := 110) rfl ?_); refine goesC_ (some 6) Try.func110 #[.pointer (some ⟨g, 0, none⟩), .int .i64 2] ?_; (with_reducible refine (spec_l01Below.calls g s0_0 t680 t681 2 t682 t683 t684 w0 _ ?side1 ?side2 A3.out).mono ?_); (case side1 => exact IsS201.nw_); (case side2 => exact IsS201.bw_); rintro e w6 ⟨rfl, hi, hb, hk⟩; refine ⟨_, rfl, ?_⟩; replace BK678 := Aside0.mk (KeepBut.blk hk (g' := gb678) (o := .cells #[.int .i64 0, .int .i64 0] 49 (0, 0)) (bk_ BK678) NB678_0.out (by simp)); replace HK := Aside0.mk (KeepBut.trans (by exact kp_) hk (.inl rfl)); replace HB := Aside0.mk (hb); replace HI0 := Aside0.mk (hi); (try clear hb); (try clear hb2); (try clear hk); (try clear hi); have hnb7 := NB678_0.out; have hnc7 := NB0_678.out; have hcz8 := blk_cell BK678.out; have hfz8 := blk_frozen BK678.out))
 refine bodyPost_ret (results_cell_row rfl _ _ gb678 49 #[.int .i64 t679, .int .i64 t682] (0, 0) _ rfl (bk_ BK678) Try.underlying49 rfl (by kernel_rfl)) rfl ?_
 exact ⟨eq_, by exact IsS201.nw_, by exact IsS201.bw_, by exact kp_⟩
def spec_l01PickInt.f (s0_0 : List Int) (s0_1 : Int) (s0_2 : Int) (l1 : List Int) : Option (Int × Int × Int) := (spec_l01Below.f s0_0 s0_1 s0_2 (l1.length : Int)).bind fun bt685 => (if 0 ≤ bt685.1 then (if bt685.1 < (l1.length : Int) then (some (rd l1 bt685.1, bt685.2.1, bt685.2.2)) else (none)) else (none))
set_option maxHeartbeats 8000000 in
set_option maxRecDepth 100000 in
theorem spec_l01PickInt.calls (g : Nat) (s0_0 : List Int) (s0_1 : Int) (s0_2 : Int) (A1 : Option Addr) (c1 : Nat) (l1 : List Int) (r1 : Int) (r2 : Int) (r3 : Int) (w0 w : World) (hI : IsS201 w0 w g s0_0 s0_1 s0_2) (hB : Below w0.heap.size w0 w) (hr1 : Kd.C (Kd.int .i64) w A1 l1.length l1) (hc1 : l1.length ≤ c1) (hf1 : ∀ ad, A1 = some ad → 0 < l1.length → ad.block ≠ g) (h : spec_l01PickInt.f s0_0 s0_1 s0_2 l1 = some (r1, r2, r3)) :
  Calls Try.prog 216 #[.pointer (some ⟨g, 0, none⟩), .slice A1 l1.length c1] w fun e w' => e = .returned (.int .i64 r1) ∧ IsS201 w0 w' g s0_0 r2 r3 ∧ Below w0.heap.size w0 w' ∧ KeepBut w w' g none := by
 have HR1 := Aside0.mk hr1
 have HC1 := Aside0.mk hc1
 clear hr1 hc1
 have HI0 := Aside0.mk hI
 have HK := Aside0.mk (KeepBut.refl w g none)
 have HL := Aside0.mk hB.size
 clear hI
 have HW0 := Aside0.mk hB.size
 have HB := Aside0.mk hB
 clear hB
 have H : ((spec_l01Below.f s0_0 s0_1 s0_2 (l1.length : Int)).bind fun bt685 => (if 0 ≤ bt685.1 then (if bt685.1 < (l1.length : Int) then (some (rd l1 bt685.1, bt685.2.1, bt685.2.2)) else (none)) else (none))) = some (r1, r2, r3) := h
 clear h
 obtain ⟨⟨t685, t686, t687⟩, A3, H⟩ := bindE_ H
 replace H : (if 0 ≤ t685 then (if t685 < (l1.length : Int) then (some (rd l1 t685, t686, t687)) else (none)) else (none)) = some (r1, r2, r3) := H
 obtain ⟨c4b0, H⟩ := ifd_ H
 obtain ⟨c5b0, H⟩ := ifd_ H
 simp only [Option.some.injEq, Prod.mk.injEq] at H
 obtain ⟨rfl, rfl, rfl⟩ := H
 go_enter Try.func216, Try.ntmps216
 go_wp2_with (first | ((with_reducible refine gate_callee (f := 110) rfl ?_); refine goesC_ (some 9) Try.func110 #[.pointer (some ⟨g, 0, none⟩), .int .i64 (l1.length : Int)] ?_; (with_reducible refine (spec_l01Below.calls g s0_0 s0_1 s0_2 (l1.length : Int) t685 t686 t687 w0 _ ?side1 ?side2 A3.out).mono ?_); (case side1 => exact IsS201.nw_); (case side2 => exact IsS201.bw_); rintro e w6 ⟨rfl, hi, hb, hk⟩; refine ⟨_, rfl, ?_⟩; replace HK := Aside0.mk (KeepBut.trans (by exact kp_) hk (.inl rfl)); replace HB := Aside0.mk (hb); replace HI0 := Aside0.mk (hi); (try clear hb); (try clear hb2); (try clear hk); (try clear hi); have p688 : 0 ≤ (t685 : Int) := od_; have q688 : t685 < (l1.length : Int) := od_; obtain ⟨ad688, e688, hx688_0⟩ := Kd.at_int HR1.out t685 p688 q688; cases e688; replace hx688_0 := keep_cell HK.out hx688_0 (by first | (rw [add_block]; exact hf1 _ rfl (by omega)) | exact hf1 _ rfl (by omega) | exact hf1 ad688 rfl (by omega)); replace p688 := eq_true p688; replace q688 := eq_true q688))
 go_ret
 exact ⟨eq_, by exact IsS201.nw_, by exact IsS201.bw_, by exact kp_⟩
end Go.Proofs.Ytjpjidgfcljpcaa.PA
