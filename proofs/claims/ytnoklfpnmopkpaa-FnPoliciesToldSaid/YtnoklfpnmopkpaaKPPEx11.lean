import Derived.Test.YtnoklfpnmopkpaaKPPEx10
-- printed by wip/tools
namespace Go.Proofs.Ytnoklfpnmopkpaa.PE
open Go.RowKit Go.Proofs.YtnoklfpnmopkpaaW.PrintWords Go.Proofs.YtnoklfpnmopkpaaW.PrintLast Go.Proofs.YtnoklfpnmopkpaaW.PrintMore
attribute [local go_sem] max2_int min2_int max_two min_two max_three min_three max_four min_four
set_option linter.unusedVariables false
set_option linter.unusedSimpArgs false
mutual
def impl_ReadVar.l0 : Nat → ByteArray → Int → Int → Int → Option (Int × Int × Bool)
 | 0, _, _, _, _ => none
 | k + 1, x0, x1, x7, x8 => if x8 < 5 then (impl_ReadVar.j1 k x0 x1 x7 x8 (decide ((wrap64 (x1 + x8)) < (x0.size : Int)))) else (impl_ReadVar.j1 k x0 x1 x7 x8 false)
def impl_ReadVar.j1 : Nat → ByteArray → Int → Int → Int → Bool → Option (Int × Int × Bool)
 | 0, _, _, _, _, _ => none
 | k + 1, x0, x1, x7, x8, x24 => if x24 = true then (if 0 ≤ (wrap64 (x1 + x8)) then (if (wrap64 (x1 + x8)) < (x0.size : Int) then (if 0 ≤ (wrap64 (7 * x8)) then (if (wrap64 (bt x0 (wrap64 (x1 + x8)))) > 127 then (impl_ReadVar.l0 k x0 x1 (Go.bits .or .i64 x7 (shl .i64 (Go.bits .and .i64 (wrap64 (bt x0 (wrap64 (x1 + x8)))) 127) (wrap64 (7 * x8)))) (wrap64 (x8 + 1))) else (if (wrap64 (bt x0 (wrap64 (x1 + x8)))) = 0 then (if x8 > 0 then (some (0, 0, false)) else (if (Go.bits .or .i64 x7 (shl .i64 (Go.bits .and .i64 (wrap64 (bt x0 (wrap64 (x1 + x8)))) 127) (wrap64 (7 * x8)))) > 1000000000 then (some (0, 0, false)) else (some (Go.bits .or .i64 x7 (shl .i64 (Go.bits .and .i64 (wrap64 (bt x0 (wrap64 (x1 + x8)))) 127) (wrap64 (7 * x8))), wrap64 ((wrap64 (x1 + x8)) + 1), true)))) else (if (Go.bits .or .i64 x7 (shl .i64 (Go.bits .and .i64 (wrap64 (bt x0 (wrap64 (x1 + x8)))) 127) (wrap64 (7 * x8)))) > 1000000000 then (some (0, 0, false)) else (some (Go.bits .or .i64 x7 (shl .i64 (Go.bits .and .i64 (wrap64 (bt x0 (wrap64 (x1 + x8)))) 127) (wrap64 (7 * x8))), wrap64 ((wrap64 (x1 + x8)) + 1), true))))) else (none)) else (none)) else (none)) else (some (0, 0, false))
end
def impl_ReadVar.f (k : Nat) (a0 : ByteArray) (a1 : Int) : Option (Int × Int × Bool) := (impl_in.f a1 0 (a0.size : Int)).bind fun t437 => (if t437 = true then (impl_ReadVar.l0 k a0 a1 0 0) else (some (0, 0, false)))
set_option maxHeartbeats 8000000 in
set_option maxRecDepth 100000 in
theorem impl_ReadVar.calls (k : Nat) (a0 : ByteArray) (a1 : Int) (r1 : Int) (r2 : Int) (r3 : Bool) (w : World) (h : impl_ReadVar.f k a0 a1 = some (r1, r2, r3)) :
  Calls Try.prog 31 #[.string a0, .int .i64 a1] w fun e w' => e = .returned (.tuple #[.int .i64 r1, .int .i64 r2, .bool r3]) ∧ Drawn0 w w' := by
 have H : ((impl_in.f a1 0 (a0.size : Int)).bind fun t437 => (if t437 = true then (impl_ReadVar.l0 k a0 a1 0 0) else (some (0, 0, false)))) = some (r1, r2, r3) := h
 clear h
 obtain ⟨t437, A3, H⟩ := bindE_ H
 have HC4 := aa_ H
 clear H
 go_enter Try.func31, Try.ntmps31
 go_upto_if 14 with (first | ((with_reducible refine gC_ 38 rfl ?_); refine goesC_ (some 13) Try.func38 #[.int .i64 a1, .int .i64 0, .int .i64 (a0.size : Int)] ?_; (with_reducible refine (impl_in.calls a1 0 (a0.size : Int) t437 _ A3.out).mono ?_); rintro e w' ⟨rfl, ⟨nd, rfl⟩⟩; refine ⟨_, rfl, ?_⟩))
 (try simp only [Act.put, List.setIfInBounds_toArray, List.set_cons_zero, List.set_cons_succ])
 have H := HC4.out
 clear HC4
 by_cases c5 : t437 = true
 ·subst c5
  replace H := ite_t_ H
  have H' := aa_ H
  clear H
  go_wp2
  go_loopg [7, 8] k (fun kq v7 v8 w' => ∃ (x7_1 : Int) (x8_1 : Int), v7 = .int .i64 x7_1 ∧ v8 = .int .i64 x8_1 ∧ Aside0 (impl_ReadVar.l0 kq a0 a1 x7_1 x8_1 = some (r1, r2, r3)) ∧ Aside0 (kq ≤ k) ∧ Drawn0 w w')
  case atStart => exact ⟨(0), (0), rf_, rf_, H', ⟨Nat.le_refl _⟩, by repeat (first | exact Drawn0.refl _ | apply Drawn0.step)⟩
  case round =>
   clear H'
   try clear p2
   try clear c3
   try clear c5
   obtain ⟨x7_1, x8_1, rfl, rfl, HA, HK1, ⟨m1, rfl⟩⟩ := hrel
   cases gk with
   | zero => exact absurd HA.out (by simp [impl_ReadVar.l0])
   | succ k1 =>
    have H := HA.out
    clear HA
    simp only [impl_ReadVar.l0] at H
    have HC6 := aa_ H
    clear H
    go_upto_region 5 with (fail)
    go_cut [24] (fun v24 wc => ∃ (kq : Nat) (x24_5 : Bool), v24 = .bool x24_5 ∧ Aside0 (impl_ReadVar.j1 kq a0 a1 x7_1 x8_1 x24_5 = some (r1, r2, r3)) ∧ Aside0 (kq ≤ k1) ∧ Drawn0 w wc)
    case first =>
     have H := HC6.out
     clear HC6
     by_cases c7 : x8_1 < 5
     ·rw [if_pos c7] at H
      have c7b0 : decide (x8_1 < 5) = true := decide_eq_true c7
      clear c7
      (first | rw [c7b0] | (simp only [i64_w, i32_w]; rw [c7b0]) | skip)
      have H' := aa_ H
      clear H
      go_wp2
      go_meet
      case rel => exact ⟨_, (decide ((wrap64 (a1 + x8_1)) < (a0.size : Int))), rf_, H', ⟨by have := HK1.out; first | omega | exact Nat.le_refl _⟩, by repeat (first | exact Drawn0.refl _ | apply Drawn0.step)⟩
     ·rw [if_neg c7] at H
      have c7b0 : decide (x8_1 < 5) = false := decide_eq_false c7
      clear c7
      (first | rw [c7b0] | (simp only [i64_w, i32_w]; rw [c7b0]) | skip)
      have H' := aa_ H
      clear H
      go_wp2
      go_meet
      case rel => exact ⟨_, (false), rf_, H', ⟨by have := HK1.out; first | omega | exact Nat.le_refl _⟩, by repeat (first | exact Drawn0.refl _ | apply Drawn0.step)⟩
    case rest =>
     clear HC6
     try clear p2
     try clear c3
     try clear c5
     try clear p6
     try clear c7
     try clear c7b0
     try clear p2
     obtain ⟨kq, x24_5, rfl, HA, HJ5, ⟨mc5, rfl⟩⟩ := hcut
     cases kq with
     | zero => exact absurd HA.out (by simp [impl_ReadVar.j1])
     | succ kj5 =>
      have H := HA.out
      clear HA
      simp only [impl_ReadVar.j1] at H
      by_cases c8 : x24_5 = true
      ·subst c8
       replace H := ite_t_ H
       obtain ⟨ji9, hji9⟩ : ∃ j_ : Int, (wrap64 (a1 + x8_1)) = j_ := ⟨_, rfl⟩
       replace H : (if 0 ≤ (ji9) then (if (ji9) < (a0.size : Int) then (if 0 ≤ (wrap64 (7 * x8_1)) then (if (wrap64 (bt a0 (ji9))) > 127 then (impl_ReadVar.l0 kj5 a0 a1 (Go.bits .or .i64 x7_1 (shl .i64 (Go.bits .and .i64 (wrap64 (bt a0 (ji9))) 127) (wrap64 (7 * x8_1)))) (wrap64 (x8_1 + 1))) else (if (wrap64 (bt a0 (ji9))) = 0 then (if x8_1 > 0 then (some (0, 0, false)) else (if (Go.bits .or .i64 x7_1 (shl .i64 (Go.bits .and .i64 (wrap64 (bt a0 (ji9))) 127) (wrap64 (7 * x8_1)))) > 1000000000 then (some (0, 0, false)) else (some (Go.bits .or .i64 x7_1 (shl .i64 (Go.bits .and .i64 (wrap64 (bt a0 (ji9))) 127) (wrap64 (7 * x8_1))), wrap64 ((ji9) + 1), true)))) else (if (Go.bits .or .i64 x7_1 (shl .i64 (Go.bits .and .i64 (wrap64 (bt a0 (ji9))) 127) (wrap64 (7 * x8_1)))) > 1000000000 then (some (0, 0, false)) else (some (Go.bits .or .i64 x7_1 (shl .i64 (Go.bits .and .i64 (wrap64 (bt a0 (ji9))) 127) (wrap64 (7 * x8_1))), wrap64 ((ji9) + 1), true))))) else (none)) else (none)) else (none)) = some (r1, r2, r3) := by first | (rw [hji9] at H; exact H) | (simp only [hji9] at H ⊢; exact H)
       have hji9w : (IntKind.i64.wrap (a1 + x8_1)) = ji9 := (i64_w _).trans hji9
       obtain ⟨c10b0, H⟩ := ifd_ H
       obtain ⟨c11b0, H⟩ := ifd_ H
       obtain ⟨ji13, hji13⟩ : ∃ j_ : Int, (wrap64 (7 * x8_1)) = j_ := ⟨_, rfl⟩
       replace H : (if 0 ≤ (ji13) then (if (wrap64 (bt a0 (ji9))) > 127 then (impl_ReadVar.l0 kj5 a0 a1 (Go.bits .or .i64 x7_1 (shl .i64 (Go.bits .and .i64 (wrap64 (bt a0 (ji9))) 127) (ji13))) (wrap64 (x8_1 + 1))) else (if (wrap64 (bt a0 (ji9))) = 0 then (if x8_1 > 0 then (some (0, 0, false)) else (if (Go.bits .or .i64 x7_1 (shl .i64 (Go.bits .and .i64 (wrap64 (bt a0 (ji9))) 127) (ji13))) > 1000000000 then (some (0, 0, false)) else (some (Go.bits .or .i64 x7_1 (shl .i64 (Go.bits .and .i64 (wrap64 (bt a0 (ji9))) 127) (ji13)), wrap64 ((ji9) + 1), true)))) else (if (Go.bits .or .i64 x7_1 (shl .i64 (Go.bits .and .i64 (wrap64 (bt a0 (ji9))) 127) (ji13))) > 1000000000 then (some (0, 0, false)) else (some (Go.bits .or .i64 x7_1 (shl .i64 (Go.bits .and .i64 (wrap64 (bt a0 (ji9))) 127) (ji13)), wrap64 ((ji9) + 1), true))))) else (none)) = some (r1, r2, r3) := by first | (rw [hji13] at H; exact H) | (simp only [hji13] at H ⊢; exact H)
       have hji13w : (IntKind.i64.wrap (7 * x8_1)) = ji13 := (i64_w _).trans hji13
       obtain ⟨c14, H⟩ := ifn_ H
       have c14b0 := eq_true c14
       have c14b1 : decide (0 ≤ (ji13)) = true := decide_eq_true c14
       clear c14
       obtain ⟨ji15, hji15⟩ : ∃ j_ : Int, (shl .i64 (Go.bits .and .i64 (wrap64 (bt a0 (ji9))) 127) (ji13)) = j_ := ⟨_, rfl⟩
       replace H : (if (wrap64 (bt a0 (ji9))) > 127 then (impl_ReadVar.l0 kj5 a0 a1 (Go.bits .or .i64 x7_1 (ji15)) (wrap64 (x8_1 + 1))) else (if (wrap64 (bt a0 (ji9))) = 0 then (if x8_1 > 0 then (some (0, 0, false)) else (if (Go.bits .or .i64 x7_1 (ji15)) > 1000000000 then (some (0, 0, false)) else (some (Go.bits .or .i64 x7_1 (ji15), wrap64 ((ji9) + 1), true)))) else (if (Go.bits .or .i64 x7_1 (ji15)) > 1000000000 then (some (0, 0, false)) else (some (Go.bits .or .i64 x7_1 (ji15), wrap64 ((ji9) + 1), true))))) = some (r1, r2, r3) := by first | (rw [hji15] at H; exact H) | (simp only [hji15] at H ⊢; exact H)
       have hji15_ : (IntKind.i64.wrap ((Go.bits .and .i64 (wrap64 (bt a0 (ji9))) 127) * 2 ^ min (ji13).toNat 64)) = ji15 := hji15
       have hji15z : (ji13) ≤ 64 → (IntKind.i64.wrap ((Go.bits .and .i64 (wrap64 (bt a0 (ji9))) 127) * 2 ^ (ji13).toNat)) = ji15 := shl_small hji15
       have hji15y : (wrap64 ((Go.bits .and .i64 (wrap64 (bt a0 (ji9))) 127) * 2 ^ min (ji13).toNat 64)) = ji15 := (i64_w _).symm.trans hji15_
       have hji15x : (ji13) ≤ 64 → (wrap64 ((Go.bits .and .i64 (wrap64 (bt a0 (ji9))) 127) * 2 ^ (ji13).toNat)) = ji15 := fun h_ => (i64_w _).symm.trans (hji15z h_)
       by_cases c16 : (wrap64 (bt a0 (ji9))) > 127
       ·rw [if_pos c16] at H
        have c16b0 : decide (127 < (wrap64 (bt a0 (ji9)))) = true := decide_eq_true c16
        clear c16
        have H' := aa_ H
        clear H
        have p12 : 0 ≤ ((ji9) : Int) := od_
        have q12 : (ji9) < (a0.size : Int) := od_
        have hx12 := bt_at a0 (ji9)
        replace p12 := eq_true p12
        replace q12 := eq_true q12
        go_wp2
        go_roundg kj5
        case measure => have := HK1.out; have := HJ5.out; omega
        case rel => exact ⟨(Go.bits .or .i64 x7_1 (ji15)), (wrap64 (x8_1 + 1)), (by first | rfl | (simp; done) | (simp only [← hji15] <;> (first | rfl | simp)) | (simp [*]; done)), rf_, H', ⟨by have := HK1.out; have := HJ5.out; omega⟩, by repeat (first | exact Drawn0.refl _ | apply Drawn0.step)⟩
       ·rw [if_neg c16] at H
        have c16b0 : decide (127 < (wrap64 (bt a0 (ji9)))) = false := decide_eq_false c16
        clear c16
        by_cases c17 : (wrap64 (bt a0 (ji9))) = 0
        ·rw [if_pos c17] at H
         have c17b0 : ((wrap64 (bt a0 (ji9))) == 0) = true := beq_iff_eq.mpr c17
         have c17b1 : ((wrap64 (bt a0 (ji9))) != 0) = false := bne_eq_false_iff_eq.mpr c17
         clear c17
         by_cases c18 : x8_1 > 0
         ·rw [if_pos c18] at H
          have c18b0 : decide (0 < x8_1) = true := decide_eq_true c18
          clear c18
          simp only [Option.some.injEq, Prod.mk.injEq] at H
          obtain ⟨rfl, rfl, rfl⟩ := H
          have p12 : 0 ≤ ((ji9) : Int) := od_
          have q12 : (ji9) < (a0.size : Int) := od_
          have hx12 := bt_at a0 (ji9)
          replace p12 := eq_true p12
          replace q12 := eq_true q12
          go_wp2
          go_ret3
          exact ⟨by first | rfl | (simp; done) | (simp only [← hji9, ← hji13, ← hji15] <;> (first | rfl | simp)) | (simp [*]; done), by repeat (first | exact Drawn0.refl _ | apply Drawn0.step)⟩
         ·rw [if_neg c18] at H
          have c18b0 : decide (0 < x8_1) = false := decide_eq_false c18
          clear c18
          by_cases c19 : (Go.bits .or .i64 x7_1 (ji15)) > 1000000000
          ·rw [if_pos c19] at H
           have c19b0 : decide (1000000000 < (Go.bits .or .i64 x7_1 (ji15))) = true := decide_eq_true c19
           clear c19
           simp only [Option.some.injEq, Prod.mk.injEq] at H
           obtain ⟨rfl, rfl, rfl⟩ := H
           have p12 : 0 ≤ ((ji9) : Int) := od_
           have q12 : (ji9) < (a0.size : Int) := od_
           have hx12 := bt_at a0 (ji9)
           replace p12 := eq_true p12
           replace q12 := eq_true q12
           go_wp2
           go_ret3
           exact ⟨by first | rfl | (simp; done) | (simp only [← hji9, ← hji13, ← hji15] <;> (first | rfl | simp)) | (simp [*]; done), by repeat (first | exact Drawn0.refl _ | apply Drawn0.step)⟩
          ·rw [if_neg c19] at H
           have c19b0 : decide (1000000000 < (Go.bits .or .i64 x7_1 (ji15))) = false := decide_eq_false c19
           clear c19
           simp only [Option.some.injEq, Prod.mk.injEq] at H
           obtain ⟨rfl, rfl, rfl⟩ := H
           have p12 : 0 ≤ ((ji9) : Int) := od_
           have q12 : (ji9) < (a0.size : Int) := od_
           have hx12 := bt_at a0 (ji9)
           replace p12 := eq_true p12
           replace q12 := eq_true q12
           go_wp2
           go_ret3
           exact ⟨by first | rfl | (simp; done) | (simp only [← hji9, ← hji13, ← hji15] <;> (first | rfl | simp)) | (simp [*]; done), by repeat (first | exact Drawn0.refl _ | apply Drawn0.step)⟩
        ·rw [if_neg c17] at H
         have c17b0 : ((wrap64 (bt a0 (ji9))) == 0) = false := beq_eq_false_iff_ne.mpr c17
         have c17b1 : ((wrap64 (bt a0 (ji9))) != 0) = true := bne_iff_ne.mpr c17
         by_cases c20 : (Go.bits .or .i64 x7_1 (ji15)) > 1000000000
         ·rw [if_pos c20] at H
          have c20b0 : decide (1000000000 < (Go.bits .or .i64 x7_1 (ji15))) = true := decide_eq_true c20
          clear c20
          simp only [Option.some.injEq, Prod.mk.injEq] at H
          obtain ⟨rfl, rfl, rfl⟩ := H
          have p12 : 0 ≤ ((ji9) : Int) := od_
          have q12 : (ji9) < (a0.size : Int) := od_
          have hx12 := bt_at a0 (ji9)
          replace p12 := eq_true p12
          replace q12 := eq_true q12
          go_wp2
          go_ret3
          exact ⟨by first | rfl | (simp; done) | (simp only [← hji9, ← hji13, ← hji15] <;> (first | rfl | simp)) | (simp [*]; done), by repeat (first | exact Drawn0.refl _ | apply Drawn0.step)⟩
         ·rw [if_neg c20] at H
          have c20b0 : decide (1000000000 < (Go.bits .or .i64 x7_1 (ji15))) = false := decide_eq_false c20
          clear c20
          simp only [Option.some.injEq, Prod.mk.injEq] at H
          obtain ⟨rfl, rfl, rfl⟩ := H
          have p12 : 0 ≤ ((ji9) : Int) := od_
          have q12 : (ji9) < (a0.size : Int) := od_
          have hx12 := bt_at a0 (ji9)
          replace p12 := eq_true p12
          replace q12 := eq_true q12
          go_wp2
          go_ret3
          exact ⟨by first | rfl | (simp; done) | (simp only [← hji9, ← hji13, ← hji15] <;> (first | rfl | simp)) | (simp [*]; done), by repeat (first | exact Drawn0.refl _ | apply Drawn0.step)⟩
      ·replace c8 := Bool.eq_false_iff.mpr c8
       subst c8
       replace H := ite_f_ H
       simp only [Option.some.injEq, Prod.mk.injEq] at H
       obtain ⟨rfl, rfl, rfl⟩ := H
       go_wp2
       go_ret3
       exact ⟨by first | rfl | (simp; done) | (simp [*]; done), by repeat (first | exact Drawn0.refl _ | apply Drawn0.step)⟩
 ·replace c5 := Bool.eq_false_iff.mpr c5
  subst c5
  replace H := ite_f_ H
  simp only [Option.some.injEq, Prod.mk.injEq] at H
  obtain ⟨rfl, rfl, rfl⟩ := H
  go_wp2
  go_ret3
  exact ⟨by first | rfl | (simp; done) | (simp [*]; done), by repeat (first | exact Drawn0.refl _ | apply Drawn0.step)⟩
def impl_readVars.l0 : Nat → ByteArray → Int → List Int → Int → Int → Option (List Int × Int × Bool)
 | 0, _, _, _, _, _ => none
 | k + 1, x0, x1, x9, x14, x15 => if x15 < x14 then ((impl_ReadVar.f k x0 x1).bind fun bt441 => (if bt441.2.2 = true then (if x9.length < 17592186044416 then (impl_readVars.l0 k x0 bt441.2.1 (x9 ++ [bt441.1]) x14 (wrap64 (x15 + 1))) else (none)) else (some (([] : List Int), 0, false)))) else (some (x9, x1, true))
def impl_readVars.f (k : Nat) (a0 : ByteArray) (a1 : Int) (a2 : Int) : Option (List Int × Int × Bool) := impl_readVars.l0 k a0 a1 (([] : List Int)) a2 0
set_option maxHeartbeats 8000000 in
set_option maxRecDepth 100000 in
theorem impl_readVars.calls (k : Nat) (a0 : ByteArray) (a1 : Int) (a2 : Int) (r1 : List Int) (r2 : Int) (r3 : Bool) (w : World) (h : impl_readVars.f k a0 a1 a2 = some (r1, r2, r3)) :
  Calls Try.prog 32 #[.string a0, .int .i64 a1, .int .i64 a2] w fun e w' => ∃ v0_ : Value, e = .returned (.tuple #[v0_, .int .i64 r2, .bool r3]) ∧ Kd.R (Kd.int .i64) 3 w' w.heap.size (fun _ => True) v0_ r1 ∧ Below w.heap.size w w' := by
 have HB := aa_ (Below.refl w.heap.size w)
 have H : (impl_readVars.l0 k a0 a1 (([] : List Int)) a2 0) = some (r1, r2, r3) := h
 clear h
 obtain ⟨y438, hy438⟩ : ∃ y_ : List Int, y_ = (([] : List Int)) := ⟨_, rfl⟩
 replace H : (impl_readVars.l0 k a0 a1 y438 a2 0) = some (r1, r2, r3) := rh_ hy438 H
 have Ny438 := aa_ hy438
 clear hy438
 have H' := aa_ H
 clear H
 go_enter Try.func32, Try.ntmps32
 go_wp2_with (first | ((with_reducible refine gD_ 13 rfl ?_); refine Kd.R_lit (Kd.int .i64) _ 3 ?hg (N := 13) ?hd (xs := ([] : List Int)) (inner := []) (ok := fun _ => True) (okp := fun _ => True) ?hr ?hp (fun _ hk => hk) trivial (Below.refl _ _) (Nat.le_refl _) (by simp) ?_; (case hd => rfl); (case hg => rfl); (case hr => first | (go_simp; done) | (go_simp; rfl)); (case hp => exact (Reps.none _ _)); intro v439 w4 ho5 hb hg_ hnew_; clear hg_ hnew_; (first | rw [← Ny438.out] at ho5 | (simp only [Int.reduceToNat] at ho5; rw [← Ny438.out] at ho5)); have HO440 := aa_ (Kd.R_lower ho5 bls_); replace HB := hbs_ hb; clear hb ho5))
 go_loopg [1, 9, 15] k (fun kq v1 v9 v15 w' => ∃ (x1_1 : Int) (x9_1 : List Int) (x15_1 : Int), v1 = .int .i64 x1_1 ∧ v15 = .int .i64 x15_1 ∧ Aside0 (impl_readVars.l0 kq a0 x1_1 x9_1 a2 x15_1 = some (r1, r2, r3)) ∧ Aside0 (kq ≤ k) ∧ Aside0 (Kd.R (Kd.int .i64) 3 w' w.heap.size (fun _ => True) v9 x9_1) ∧ Aside0 (Below w.heap.size w w'))
 case atStart => exact ⟨(a1), (y438), (0), rf_, rf_, H', ⟨Nat.le_refl _⟩, ⟨rr_ HO440⟩, ⟨bl_⟩⟩
 case round =>
  clear H'
  try clear p2
  try clear c3
  obtain ⟨x1_1, x9_1, x15_1, rfl, rfl, HA, HK1, HO_9, HB⟩ := hrel
  cases gk with
  | zero => exact absurd HA.out (by simp [impl_readVars.l0])
  | succ k1 =>
   have H := HA.out
   clear HA
   simp only [impl_readVars.l0] at H
   by_cases c6 : x15_1 < a2
   ·rw [if_pos c6] at H
    have c6b0 : decide (x15_1 < a2) = true := decide_eq_true c6
    clear c6
    obtain ⟨⟨t441, t442, t443⟩, A7, H⟩ := bindE_ H
    (try dsimp only at H)
    have HC8 := aa_ H
    clear H
    go_upto_if 25 with (first | ((with_reducible refine gC_ 31 rfl ?_); refine goesC_ (some 20) Try.func31 #[.string a0, .int .i64 x1_1] ?_; (with_reducible refine (impl_ReadVar.calls k1 a0 x1_1 t441 t442 t443 _ A7.out).mono ?_); rintro e w' ⟨rfl, ⟨nd, rfl⟩⟩; refine ⟨_, rfl, ?_⟩))
    (try simp only [Act.put, List.setIfInBounds_toArray, List.set_cons_zero, List.set_cons_succ])
    have H := HC8.out
    clear HC8
    by_cases c9 : t443 = true
    ·subst c9
     replace H := ite_t_ H
     obtain ⟨c10, H⟩ := ifn_ H
     have LMc10 := aa_ c10
     clear c10
     obtain ⟨y444, hy444⟩ : ∃ y_ : List Int, y_ = (x9_1 ++ [t441]) := ⟨_, rfl⟩
     replace H : (impl_readVars.l0 k1 a0 t442 y444 a2 (wrap64 (x15_1 + 1))) = some (r1, r2, r3) := rh_ hy444 H
     have Ny444 := aa_ hy444
     clear hy444
     have H' := aa_ H
     clear H
     go_wp2_with (first | ((with_reducible refine gate_builtin (b := .append) (xs := #[.tmp 26, .tmp 28]) rfl ?_); at_builtin; refine Kd.R_append (Kd.int .i64) (w0 := w) w.heap.size rfl (.tmp 26) (.tmp 28) 51 3 (.int .i64 0) 8 rfl Try.underlying51 info3 rfl (by decide) (by omega) u9 x9_1 t441 [.int .i64 t441] (fun _ => True) (fun _ => False) rfl rfl ?aP (fun _ hk => hk.elim) ?aF ?aO ?aB ?aS ?aL ?_; (case aP => exact rfl); (case aB => exact bl_); (case aF => exact (fun _ _ => trivial)); (case aO => exact (rr_ HO_9)); (case aS => exact bls_); (case aL => have := LMc10.out; omega); intro v445 w11 ho hb hg hat; rw [← Ny444.out] at ho; replace HB := aa_ (hb); have HO446 := aa_ (ho); clear HO_9; clear ho hb hg hat))
     go_roundg k1
     case measure => have := HK1.out; omega
     case rel => exact ⟨(t442), (y444), (wrap64 (x15_1 + 1)), rf_, rf_, H', ⟨by have := HK1.out; omega⟩, ⟨rr_ HO446⟩, ⟨bl_⟩⟩
    ·replace c9 := Bool.eq_false_iff.mpr c9
     subst c9
     replace H := ite_f_ H
     simp only [Option.some.injEq, Prod.mk.injEq] at H
     obtain ⟨rfl, rfl, rfl⟩ := H
     go_wp2
     go_ret3
     exact ⟨_, eq_, by first | exact Kd.R_nil _ _ _ _ _ | exact Kd.N_nil _ _ _ _ _ | exact Kd.V_nil _ _ _ _ _ | exact Kd.Q_nil _ _ _ _ _ | exact Kd.S_nil _ _ _ _ _, bl_⟩
   ·rw [if_neg c6] at H
    have c6b0 : decide (x15_1 < a2) = false := decide_eq_false c6
    clear c6
    simp only [Option.some.injEq, Prod.mk.injEq] at H
    obtain ⟨rfl, rfl, rfl⟩ := H
    go_wp2
    go_ret3
    exact ⟨_, eq_, by (with_reducible repeat (first | apply Kd.R_alloc | apply Kd.R_drewN | apply Kd.R_drew)); exact HO_9.out, bl_⟩
mutual
def impl_ReadPolicy.j0 : Nat → ByteArray → Int → Int → Bool → Option ((List (S57)) × Bool)
 | 0, _, _, _, _ => none
 | k + 1, x0, x4, x5, x22 => if x22 = true then (some (([] : List (S57)), false)) else (impl_ReadPolicy.l0 k x0 x5 x4 0 ([] : List (S57)))
def impl_ReadPolicy.l0 : Nat → ByteArray → Int → Int → Int → List (S57) → Option ((List (S57)) × Bool)
 | 0, _, _, _, _, _ => none
 | k + 1, x0, x5, x25, x26, x452000 => if x26 < x25 then ((impl_readVars.f k x0 x5 5).bind fun bt452 => (if bt452.2.2 = true then (if 0 < (bt452.1.length : Int) then (if 1 < (bt452.1.length : Int) then (if 2 < (bt452.1.length : Int) then (if 3 < (bt452.1.length : Int) then (if 4 < (bt452.1.length : Int) then (if x452000.length < 3518437208883 then (impl_ReadPolicy.l0 k x0 bt452.2.1 x25 (wrap64 (x26 + 1)) (x452000 ++ [(⟨rd bt452.1 0, (⟨rd bt452.1 1, rd bt452.1 2⟩ : S55), rd bt452.1 3, rd bt452.1 4⟩ : S57)])) else (none)) else (none)) else (none)) else (none)) else (none)) else (none)) else (some (([] : List (S57)), false)))) else (if x5 = (x0.size : Int) then ((impl_PolicyOk.f k x452000).bind fun t465 => (if t465 = true then (some (x452000, true)) else (some (([] : List (S57)), false)))) else (some (([] : List (S57)), false)))
end
def impl_ReadPolicy.f (k : Nat) (a0 : ByteArray) : Option ((List (S57)) × Bool) := (impl_ReadVar.f k a0 0).bind fun bt448 => (if bt448.2.2 = true then (impl_ReadPolicy.j0 k a0 bt448.1 bt448.2.1 (decide (bt448.1 > 40))) else (impl_ReadPolicy.j0 k a0 bt448.1 bt448.2.1 true))
def impl_ReadPolicy.T10 : Bool × List (List Nat × List Nat) := (true, [([], []), ([0], [0]), ([], []), ([2], [2]), ([3], [3]), ([], []), ([5], [5]), ([6], [6]), ([], []), ([8], [8]), ([9], [9]), ([7, 10], [7, 10]), ([], []), ([12], [12]), ([13], [13]), ([], []), ([15], [15]), ([16], [16]), ([4, 11, 14, 17], [4, 11, 14, 17]), ([18], [18]), ([1, 19], [1, 19]), ([0, 1, 2, 3, 4, 5, 6, 7, 8, 9, 10, 11, 12, 13, 14, 15, 16, 17, 18, 19, 20], []), ([21, 20, 20, 0, 1, 2, 3, 4, 5, 6, 7, 8, 9, 10, 11, 12, 13, 14, 15, 16, 17, 18, 19, 20], [20, 21])])
def impl_ReadPolicy.B10 : List Nat := [0, 1, 0, 4, 12, 0, 32, 96, 0, 256, 768, 2016, 0, 4096, 12288, 0, 32768, 98304, 262140, 524284, 1048575, 2097151, 4194303]
theorem impl_ReadPolicy.tab10 : rtab .any (opsOf Try.f10 10) = impl_ReadPolicy.T10 := by kernel_rfl
theorem impl_ReadPolicy.bits10 : waitsOk impl_ReadPolicy.T10.2 impl_ReadPolicy.B10 = true := by kernel_rfl
set_option maxHeartbeats 8000000 in
set_option maxRecDepth 100000 in
theorem impl_ReadPolicy.calls (k : Nat) (a0 : ByteArray) (r1 : List (S57)) (r2 : Bool) (w : World) (h : impl_ReadPolicy.f k a0 = some (r1, r2)) :
  Calls Try.prog 10 #[.string a0] w fun e w' => ∃ v0_ : Value, e = .returned (.tuple #[.agg #[v0_], .bool r2]) ∧ Kd.R k57 57 w' w.heap.size (fun _ => True) v0_ r1 ∧ Below w.heap.size w w' := by
 have hu27 := Try.underlying27
 have hu55 := Try.underlying55
 have hu57 := Try.underlying57
 have HB := aa_ (Below.refl w.heap.size w)
 have H : ((impl_ReadVar.f k a0 0).bind fun bt448 => (if bt448.2.2 = true then (impl_ReadPolicy.j0 k a0 bt448.1 bt448.2.1 (decide (bt448.1 > 40))) else (impl_ReadPolicy.j0 k a0 bt448.1 bt448.2.1 true))) = some (r1, r2) := h
 clear h
 obtain ⟨⟨t448, t449, t450⟩, A2, H⟩ := bindE_ H
 (try dsimp only at H)
 have HC3 := aa_ H
 clear H
 go_enter Try.func10, Try.ntmps10
 go_upto_region 2 with (first | ((with_reducible refine gD_ 2 rfl ?_); refine bx_ (N := 2) (cs := #[.slice none 0 0]) (t := 27) ?_; intro gb447 hg w4 hbox hb; have BK447 := aa_ (hbox); have GW447 := gs_ hg; have GE447 := gs_ hg; replace HB := hbs_ hb; clear hb hbox hg) | ((with_reducible refine gC_ 31 rfl ?_); refine goesC_ (some 13) Try.func31 #[.string a0, .int .i64 0] ?_; (with_reducible refine (impl_ReadVar.calls k a0 0 t448 t449 t450 _ A2.out).mono ?_); rintro e w' ⟨rfl, ⟨nd, rfl⟩⟩; refine ⟨_, rfl, ?_⟩))
 (try simp only [Act.put, List.setIfInBounds_toArray, List.set_cons_zero, List.set_cons_succ])
 go_cut [22] (fun v22 wc => ∃ (kq : Nat) (x22_2 : Bool), v22 = .bool x22_2 ∧ Aside0 (impl_ReadPolicy.j0 kq a0 t448 t449 x22_2 = some (r1, r2)) ∧ Aside0 (kq ≤ k) ∧ Aside0 (wc.heap[gb447]? = some (.cells #[(.slice none 0 0)] 27 (0, 0))) ∧ Aside0 (Below w.heap.size w wc))
 case first =>
  have H := HC3.out
  clear HC3
  by_cases c5 : t450 = true
  ·subst c5
   replace H := ite_t_ H
   have H' := aa_ H
   clear H
   go_wp2
   go_meet
   case rel => exact ⟨_, (decide (t448 > 40)), rf_, H', ⟨by first | omega | exact Nat.le_refl _⟩, ⟨bk_ BK447⟩, ⟨bl_⟩⟩
  ·replace c5 := Bool.eq_false_iff.mpr c5
   subst c5
   replace H := ite_f_ H
   have H' := aa_ H
   clear H
   go_wp2
   go_meet
   case rel => exact ⟨_, (true), rf_, H', ⟨by first | omega | exact Nat.le_refl _⟩, ⟨bk_ BK447⟩, ⟨bl_⟩⟩
 case rest =>
  clear HC3
  try clear c1
  try clear p2
  try clear c3
  try clear c5
  obtain ⟨kq, x22_2, rfl, HA, HJ2, BK447, HB⟩ := hcut
  cases kq with
  | zero => exact absurd HA.out (by simp [impl_ReadPolicy.j0])
  | succ kj2 =>
   have H := HA.out
   clear HA
   simp only [impl_ReadPolicy.j0] at H
   by_cases c6 : x22_2 = true
   ·subst c6
    replace H := ite_t_ H
    simp only [Option.some.injEq, Prod.mk.injEq] at H
    obtain ⟨rfl, rfl⟩ := H
    have hcz7 := blk_cell BK447.out
    have hfz7 := blk_frozen BK447.out
    go_wp2
    refine bodyPost_ret (results_ct rfl _ _ gb447 27 #[.slice none 0 0] (0, 0) _ rfl (bk_ BK447) Try.underlying27 rfl (by kernel_rfl)) rfl ?_
    exact ⟨_, eq_, by first | exact Kd.R_nil _ _ _ _ _ | exact Kd.N_nil _ _ _ _ _ | exact Kd.V_nil _ _ _ _ _ | exact Kd.Q_nil _ _ _ _ _ | exact Kd.S_nil _ _ _ _ _, bl_⟩
   ·replace c6 := Bool.eq_false_iff.mpr c6
    subst c6
    replace H := ite_f_ H
    have H' := aa_ H
    clear H
    go_wp2_with (first | ((with_reducible refine gD_ 7 rfl ?_); refine bx_ (N := 7) (cs := #[.slice none 0 0]) (t := 27) ?_; intro gb451 hg w8 hbox hb; have BK451 := aa_ (hbox); have GW451 := gs_ hg; have GE451 := gs_ hg; replace HB := hbs_ hb; have NB447_451 := nl_ hg BK447; have NB451_447 := nr_ hg BK447; replace BK447 := bkb_ BK447 hb; clear hb hbox hg; have hnb9 := NB451_447.out; have hnc9 := NB447_451.out; obtain ⟨hcz10, hfz10⟩ := bcf_ BK451))
    go_loopg [5, 26] kj2 (fun kq v5 v26 w' => ∃ (x5_2 : Int) (x26_2 : Int) (x452000_2 : List (S57)) (u452000 : Value), v5 = .int .i64 x5_2 ∧ v26 = .int .i64 x26_2 ∧ Aside0 (impl_ReadPolicy.l0 kq a0 x5_2 t448 x26_2 x452000_2 = some (r1, r2)) ∧ Aside0 (kq ≤ kj2) ∧ Aside0 (Kd.R k57 57 w' w.heap.size (fun _ => True) u452000 x452000_2) ∧ Aside0 (w'.heap[gb447]? = some (.cells #[(.slice none 0 0)] 27 (0, 0))) ∧ Aside0 (w'.heap[gb451]? = some (.cells #[u452000] 27 (0, 0))) ∧ Aside0 (Below w.heap.size w w'))
    case atStart => exact ⟨(t449), (0), (([] : List (S57))), (.slice none 0 0), rf_, rf_, H', ⟨Nat.le_refl _⟩, ⟨by first | exact Kd.R_nil _ _ _ _ _ | exact Kd.N_nil _ _ _ _ _ | exact Kd.V_nil _ _ _ _ _ | exact Kd.Q_nil _ _ _ _ _ | exact Kd.S_nil _ _ _ _ _⟩, ⟨bk_ BK447⟩, ⟨bk_ BK451⟩, ⟨bl_⟩⟩
    case round =>
     clear H'
     try clear c1
     try clear p2
     try clear c3
     try clear c5
     try clear c6
     try clear c9
     try clear c10
     try clear hcz10
     try clear hcz7
     try clear hfz10
     try clear hfz7
     try clear p2
     obtain ⟨x5_2, x26_2, x452000_2, u452000, rfl, rfl, HA, HK2, HO_452000, BK447, BK451, HB⟩ := hrel
     cases gk with
     | zero => exact absurd HA.out (by simp [impl_ReadPolicy.l0])
     | succ k2 =>
      have H := HA.out
      clear HA
      simp only [impl_ReadPolicy.l0] at H
      by_cases c11 : x26_2 < t448
      ·rw [if_pos c11] at H
       have c11b0 : decide (x26_2 < t448) = true := decide_eq_true c11
       clear c11
       obtain ⟨⟨t452, t453, t454⟩, A12, H⟩ := bindE_ H
       replace H : (if t454 = true then (if 0 < (t452.length : Int) then (if 1 < (t452.length : Int) then (if 2 < (t452.length : Int) then (if 3 < (t452.length : Int) then (if 4 < (t452.length : Int) then (if x452000_2.length < 3518437208883 then (impl_ReadPolicy.l0 k2 a0 t453 t448 (wrap64 (x26_2 + 1)) (x452000_2 ++ [(⟨rd t452 0, (⟨rd t452 1, rd t452 2⟩ : S55), rd t452 3, rd t452 4⟩ : S57)])) else (none)) else (none)) else (none)) else (none)) else (none)) else (none)) else (some (([] : List (S57)), false))) = some (r1, r2) := H
       have HC13 := aa_ H
       clear H
       go_upto_if 36 with (first | ((with_reducible refine gC_ 32 rfl ?_); refine goesC_ (some 31) Try.func32 #[.string a0, .int .i64 x5_2, .int .i64 5] ?_; (with_reducible refine (impl_readVars.calls k2 a0 x5_2 5 t452 t453 t454 _ A12.out).mono ?_); rintro e w14 ⟨v455, rfl, ho0, hb⟩; refine ⟨_, rfl, ?_⟩; replace HO_452000 := hob_ HO_452000 hb; have HO456 := aa_ (Kd.R_lower ho0 bls_); replace BK447 := bkb_ BK447 hb; replace BK451 := bkb_ BK451 hb; replace HB := hbs_ hb; (try clear hb ho0)))
       (try simp only [Act.put, List.setIfInBounds_toArray, List.set_cons_zero, List.set_cons_succ])
       have H := HC13.out
       clear HC13
       by_cases c15 : t454 = true
       ·subst c15
        replace H := ite_t_ H
        obtain ⟨c16, H⟩ := ifn_ H
        have c16b0 : decide (0 < (t452.length : Int)) = true := decide_eq_true c16
        have c16b1 : decide (0 < t452.length) = true := decide_eq_true (by omega)
        clear c16
        (first | rw [c16b0] | (simp only [i64_w, i32_w]; rw [c16b0]) | (have cz_ := c16b0; simp only [Int.ofNat_lt, Int.ofNat_le, gt_iff_lt, ge_iff_le] at cz_; rw [cz_]; clear cz_) | skip)
        obtain ⟨c17, H⟩ := ifn_ H
        have c17b0 : decide (1 < (t452.length : Int)) = true := decide_eq_true c17
        have c17b1 : decide (1 < t452.length) = true := decide_eq_true (by omega)
        clear c17
        obtain ⟨c18, H⟩ := ifn_ H
        have c18b0 : decide (2 < (t452.length : Int)) = true := decide_eq_true c18
        have c18b1 : decide (2 < t452.length) = true := decide_eq_true (by omega)
        clear c18
        obtain ⟨c19, H⟩ := ifn_ H
        have c19b0 : decide (3 < (t452.length : Int)) = true := decide_eq_true c19
        have c19b1 : decide (3 < t452.length) = true := decide_eq_true (by omega)
        clear c19
        obtain ⟨c20, H⟩ := ifn_ H
        have c20b0 : decide (4 < (t452.length : Int)) = true := decide_eq_true c20
        have c20b1 : decide (4 < t452.length) = true := decide_eq_true (by omega)
        clear c20
        obtain ⟨c21, H⟩ := ifn_ H
        have LMc21 := aa_ c21
        clear c21
        obtain ⟨y462, hy462⟩ : ∃ y_ : List (S57), y_ = (x452000_2 ++ [(⟨rd t452 0, (⟨rd t452 1, rd t452 2⟩ : S55), rd t452 3, rd t452 4⟩ : S57)]) := ⟨_, rfl⟩
        replace H : (impl_ReadPolicy.l0 k2 a0 t453 t448 (wrap64 (x26_2 + 1)) y462) = some (r1, r2) := rh_ hy462 H
        have Ny462 := aa_ hy462
        clear hy462
        have H' := aa_ H
        clear H
        try go_wp2
        replace HO_452000 := aa_ (Kd.R_drew HO_452000.out)
        replace HO456 := aa_ (Kd.R_drew HO456.out)
        replace BK447 := aa_ (blk_drew BK447.out)
        replace BK451 := aa_ (blk_drew BK451.out)
        replace HB := aa_ (below_drew1 HB.out)
        obtain ⟨Ao23, co23, eo23⟩ := Kd.R_slice HO456.out
        (first | subst eo23 | (injection eo23 with f1_ f2_ f3_; have f4_ := f1_.symm; have f5_ := f3_.symm; clear f1_ f2_ f3_; subst f4_; subst f5_))
        have p457 : 0 ≤ (0 : Int) := (by omega)
        have q457 : 0 < (t452.length : Int) := od_
        obtain ⟨ad457, e457, hx457_0⟩ := Kd.at_int (Kd.R_reads' HO456.out).2.2 0 p457 q457
        cases e457
        have qi457 : (0 < t452.length) = True := eq_true (by omega)
        (try rw [show ((0 : Int)).toNat = 0 from rfl] at hx457_0)
        (try rw [Addr.add_zero'] at hx457_0)
        replace p457 := eq_true p457
        replace q457 := eq_true q457
        have p458 : 0 ≤ (1 : Int) := (by omega)
        have q458 : 1 < (t452.length : Int) := od_
        obtain ⟨ad458, e458, hx458_0⟩ := Kd.at_int (Kd.R_reads' HO456.out).2.2 1 p458 q458
        obtain rfl : ad457 = ad458 := (by injection e458)
        (try simp only [show (1 : Int).toNat = 1 from rfl, Nat.reduceMul, Nat.reduceEqDiff, Go.Addr.add, ↓reduceIte] at hx458_0)
        have qi458 : (1 < t452.length) = True := eq_true (by omega)
        (try rw [show ((1 : Int)).toNat = 1 from rfl] at hx458_0)
        replace p458 := eq_true p458
        replace q458 := eq_true q458
        have p459 : 0 ≤ (2 : Int) := (by omega)
        have q459 : 2 < (t452.length : Int) := od_
        obtain ⟨ad459, e459, hx459_0⟩ := Kd.at_int (Kd.R_reads' HO456.out).2.2 2 p459 q459
        obtain rfl : ad457 = ad459 := (by injection e459)
        (try simp only [show (2 : Int).toNat = 2 from rfl, Nat.reduceMul, Nat.reduceEqDiff, Go.Addr.add, ↓reduceIte] at hx459_0)
        have qi459 : (2 < t452.length) = True := eq_true (by omega)
        (try rw [show ((2 : Int)).toNat = 2 from rfl] at hx459_0)
        replace p459 := eq_true p459
        replace q459 := eq_true q459
        have p460 : 0 ≤ (3 : Int) := (by omega)
        have q460 : 3 < (t452.length : Int) := od_
        obtain ⟨ad460, e460, hx460_0⟩ := Kd.at_int (Kd.R_reads' HO456.out).2.2 3 p460 q460
        obtain rfl : ad457 = ad460 := (by injection e460)
        (try simp only [show (3 : Int).toNat = 3 from rfl, Nat.reduceMul, Nat.reduceEqDiff, Go.Addr.add, ↓reduceIte] at hx460_0)
        have qi460 : (3 < t452.length) = True := eq_true (by omega)
        (try rw [show ((3 : Int)).toNat = 3 from rfl] at hx460_0)
        replace p460 := eq_true p460
        replace q460 := eq_true q460
        have p461 : 0 ≤ (4 : Int) := (by omega)
        have q461 : 4 < (t452.length : Int) := od_
        obtain ⟨ad461, e461, hx461_0⟩ := Kd.at_int (Kd.R_reads' HO456.out).2.2 4 p461 q461
        obtain rfl : ad457 = ad461 := (by injection e461)
        (try simp only [show (4 : Int).toNat = 4 from rfl, Nat.reduceMul, Nat.reduceEqDiff, Go.Addr.add, ↓reduceIte] at hx461_0)
        have qi461 : (4 < t452.length) = True := eq_true (by omega)
        (try rw [show ((4 : Int)).toNat = 4 from rfl] at hx461_0)
        replace p461 := eq_true p461
        replace q461 := eq_true q461
        refine start_ (n := 23) (S := fun w' => w'.cell? ⟨gb451, 0, none⟩ = some (u452000) ∧ w'.cell? ad457 = some (.int .i64 (rd t452 0)) ∧ w'.cell? ⟨ad457.block, ad457.off + 1, none⟩ = some (.int .i64 (rd t452 1)) ∧ w'.cell? ⟨ad457.block, ad457.off + 2, none⟩ = some (.int .i64 (rd t452 2)) ∧ w'.cell? ⟨ad457.block, ad457.off + 3, none⟩ = some (.int .i64 (rd t452 3)) ∧ w'.cell? ⟨ad457.block, ad457.off + 4, none⟩ = some (.int .i64 (rd t452 4))) (ds := [20, 22]) (ba_ 23 0) (by kernel_rfl) rfl rfl ⟨(blk_cell BK451.out 0).trans rfl, hx457_0, hx458_0, hx459_0, hx460_0, hx461_0⟩ (fun hHeld => ?_); refine with_tabW impl_ReadPolicy.tab10 impl_ReadPolicy.bits10 (fun HT_ HW_ => ?_)
        generalize w14.drew = w22 at HO_452000 HO456 BK447 BK451 HB hx457_0 hx458_0 hx459_0 hx460_0 hx461_0 hHeld ⊢
        refine pureZ_ (i := 0) (some 38) (ba_ 23 1) (ao_ HT_) ?_
        refine pureZ_ (i := 2) (some 40) (ba_ 23 5) (ao_ HT_) ?_
        refine pureZ_ (i := 3) (some 41) (ba_ 23 13) (ao_ HT_) ?_
        refine pureZ_ (i := 5) (some 43) (ba_ 23 45) (ao_ HT_) ?_
        refine pureZ_ (i := 6) (some 44) (ba_ 23 109) (ao_ HT_) ?_
        refine pureZ_ (i := 8) (some 46) (ba_ 23 365) (ao_ HT_) ?_
        refine pureZ_ (i := 9) (some 47) (ba_ 23 877) (ao_ HT_) ?_
        refine pureZ_ (i := 12) (some 50) (ba_ 23 4973) (ao_ HT_) ?_
        refine pureZ_ (i := 13) (some 51) (ba_ 23 13165) (ao_ HT_) ?_
        refine pureZ_ (i := 15) (some 53) (ba_ 23 45933) (ao_ HT_) ?_
        refine pureZ_ (i := 16) (some 54) (ba_ 23 111469) (ao_ HT_) ?_
        refine takeZ_ (i := 1) (some 39) (ba_ 23 111471) (take_ofW HT_.out HW_.out (by kernel_rfl)) hHeld ?_
        refine takeZ_ (i := 4) (some 42) (ba_ 23 111487) (take_ofW HT_.out HW_.out (by kernel_rfl)) hHeld ?_
        refine takeZ_ (i := 7) (some 45) (ba_ 23 111615) (take_ofW HT_.out HW_.out (by kernel_rfl)) hHeld ?_
        refine takeZ_ (i := 10) (some 48) (ba_ 23 112639) (take_ofW HT_.out HW_.out (by kernel_rfl)) hHeld ?_
        refine pureZ_ (i := 11) (some 49) (ba_ 23 114687) (ao_ HT_) ?_
        refine takeZ_ (i := 14) (some 52) (ba_ 23 131071) (take_ofW HT_.out HW_.out (by kernel_rfl)) hHeld ?_
        refine takeZ_ (i := 17) (some 55) (ba_ 23 262143) (take_ofW HT_.out HW_.out (by kernel_rfl)) hHeld ?_
        refine pureZ_ (i := 18) (some 56) (ba_ 23 524287) (ao_ HT_) ?_
        refine one_ (i := 19) (N := some 57) (ba_ 23 1048575) rfl rfl (one_of HT_.out (by kernel_rfl)) (by decide) (fun K hK => ?_)
        refine value_ (w1 := ?_) (v := ?_) (by rfl) rfl ?_ ?_
        rotate_left 2
        ·go_simp
         constructor
         ·rfl
         ·rfl
        refine hK.out _ _ ⟨(blk_cell (blk_alloc BK451.out _) 0).trans rfl, (World.cell?_alloc_lt _ _ _ (World.block_lt_of_cell? _ _ (hHeld.2.1))).trans (hHeld.2.1), (World.cell?_alloc_lt _ _ _ (World.block_lt_of_cell? _ _ (hHeld.2.2.1))).trans (hHeld.2.2.1), (World.cell?_alloc_lt _ _ _ (World.block_lt_of_cell? _ _ (hHeld.2.2.2.1))).trans (hHeld.2.2.2.1), (World.cell?_alloc_lt _ _ _ (World.block_lt_of_cell? _ _ (hHeld.2.2.2.2.1))).trans (hHeld.2.2.2.2.1), (World.cell?_alloc_lt _ _ _ (World.block_lt_of_cell? _ _ (hHeld.2.2.2.2.2))).trans (hHeld.2.2.2.2.2)⟩ (fun hHeld => ?_)
        clear hK K
        refine norm_ (a' := ?_) ?_ ?_
        rotate_left
        ·show Act.put _ (some 57) _ = _
         simp only [Act.put, List.setIfInBounds_toArray, List.set_cons_zero, List.set_cons_succ, i64_w, i32_w]
         rfl
        refine last_ (i := 20) (N := some 58) (ba_ 23 2097151) rfl rfl (one_of HT_.out (by kernel_rfl)) (by decide) (fun K hK => ?_)
        refine Kd.R_append_step k57 (w0 := w) w.heap.size (by rfl) (.tmp 39) (.tmp 57) 25 57 (.agg #[(.int .i64 0), (.int .i64 0), (.int .i64 0), (.int .i64 0), (.int .i64 0)]) 40 rfl Try.underlying25 info57 rfl (by decide) (by omega) u452000 x452000_2 (⟨rd t452 0, (⟨rd t452 1, rd t452 2⟩ : S55), rd t452 3, rd t452 4⟩ : S57) [.int .i64 (rd t452 0), .int .i64 (rd t452 1), .int .i64 (rd t452 2), .int .i64 (rd t452 3), .int .i64 (rd t452 4)] (fun _ => True) (fun _ => False) rfl rfl ?aP (fun _ hk => hk.elim) ?aF ?aO ?aB ?aS ?aL ?_
        (case aP => exact k57_mkM _ _ _ (⟨rd t452 0, (⟨rd t452 1, rd t452 2⟩ : S55), rd t452 3, rd t452 4⟩ : S57))
        (case aB => exact bl_)
        (case aF => exact (fun _ _ => trivial))
        (case aO => exact (rr_ HO_452000))
        (case aS => exact bls_)
        (case aL => have := LMc21.out; omega)
        intro v463 w24 ho hb hg hat
        rw [← Ny462.out] at ho
        replace BK447 := aa_ (blk_grown (g := gb447) (o := .cells #[.slice none 0 0] 27 (0, 0)) (bk_ BK447) hg (Kd.R_ne HO_452000.out BK447.out (by decide)))
        replace BK451 := aa_ (blk_grown (g := gb451) (o := .cells #[u452000] 27 (0, 0)) (bk_ BK451) hg (Kd.R_ne HO_452000.out BK451.out (by decide)))
        replace HO456 := aa_ (Kd.R_over' (rr_ HO456) (Kd.R_typed (rr_ HO_452000)) (by decide) hg)
        replace HB := aa_ (hb)
        have HO464 := aa_ (ho)
        clear HO_452000
        clear ho hb hg hat
        obtain ⟨Ao25, co25, eo25⟩ := Kd.R_slice HO464.out
        (first | subst eo25 | (injection eo25 with f1_ f2_ f3_; have f4_ := f1_.symm; have f5_ := f3_.symm; clear f1_ f2_ f3_; subst f4_; subst f5_))
        refine hK.out _ _ ?_
        clear hK K
        refine norm_ (a' := ?_) ?_ ?_
        rotate_left
        ·show Act.put _ (some 58) _ = _
         simp only [Act.put, List.setIfInBounds_toArray, List.set_cons_zero, List.set_cons_succ, i64_w, i32_w]
         rfl
        refine pureZ_ (i := 21) (some 59) (ba_ 23 4194303) (ao_ HT_) ?_
        refine last_ (i := 22) (N := none) (ba_ 23 8388607) rfl rfl (one_of HT_.out (by kernel_rfl)) (by decide) (fun K hK => ?_)
        have hs26 : w24.cell? ⟨gb451, 0, none⟩ = some (u452000) := (blk_cell BK451.out 0).trans rfl
        have hfs26 := blk_frozen BK451.out 0
        have hns26_0 := NB447_451.out
        have hms26_0 := NB451_447.out
        refine skip_ (w1 := ?_) (by rfl) rfl ?_ ?_
        rotate_left
        ·go_simp
         rfl
        refine hK.out _ _ ?_
        clear hK K
        refine done_ (done_of HT_.out (by kernel_rfl)) ?_
        try go_wp2
        go_roundg k2
        case measure => have := HJ2.out; have := HK2.out; omega
        case rel => exact ⟨(t453), (wrap64 (x26_2 + 1)), (y462), (.slice Ao25 y462.length co25), rf_, rf_, H', ⟨by have := HJ2.out; have := HK2.out; omega⟩, ⟨by (with_reducible repeat (first | apply Kd.R_alloc | apply Kd.R_drewN | apply Kd.R_drew)); exact Kd.R_mono (Kd.R_far (p := ⟨gb451, 0, none⟩) (Kd.R_types HO464.out BK451.out (by decide)) (fun _ hk => hk.2) (.slice Ao25 y462.length co25)) (fun _ hk => trivial)⟩, ⟨bk_ BK447⟩, ⟨bk_ BK451⟩, ⟨bl_⟩⟩
       ·replace c15 := Bool.eq_false_iff.mpr c15
        subst c15
        replace H := ite_f_ H
        simp only [Option.some.injEq, Prod.mk.injEq] at H
        obtain ⟨rfl, rfl⟩ := H
        have hnb27 := NB447_451.out
        have hnc27 := NB451_447.out
        have hcz28 := blk_cell BK447.out
        have hfz28 := blk_frozen BK447.out
        go_wp2
        refine bodyPost_ret (results_ct rfl _ _ gb447 27 #[.slice none 0 0] (0, 0) _ rfl (bk_ BK447) Try.underlying27 rfl (by kernel_rfl)) rfl ?_
        exact ⟨_, eq_, by first | exact Kd.R_nil _ _ _ _ _ | exact Kd.N_nil _ _ _ _ _ | exact Kd.V_nil _ _ _ _ _ | exact Kd.Q_nil _ _ _ _ _ | exact Kd.S_nil _ _ _ _ _, bl_⟩
      ·rw [if_neg c11] at H
       have c11b0 : decide (x26_2 < t448) = false := decide_eq_false c11
       clear c11
       by_cases c29 : x5_2 = (a0.size : Int)
       ·rw [if_pos c29] at H
        have c29b0 : (x5_2 == (a0.size : Int)) = true := beq_iff_eq.mpr c29
        have c29b1 : (x5_2 != (a0.size : Int)) = false := bne_eq_false_iff_eq.mpr c29
        clear c29
        obtain ⟨t465, A30, H⟩ := bindE_ H
        have HC31 := aa_ H
        clear H
        have hnb32 := NB451_447.out
        have hnc32 := NB447_451.out
        have hcz33 := blk_cell BK451.out
        have hfz33 := blk_frozen BK451.out
        obtain ⟨Ao34, co34, eo34⟩ := Kd.R_slice HO_452000.out
        subst eo34
        go_upto_if 70 with (first | (go_at_call 14; (with_reducible refine (impl_PolicyOk.calls k2 _ _ x452000_2 t465 _ ?side1 ?side2 A30.out).mono ?_); (case side1 => repeat (first | exact (Kd.R_reads' HO_452000.out).2.2 | (with_reducible refine Kd.C_alloc ?_ _) | (with_reducible refine Kd.C_drewN ?_ _) | (with_reducible refine Kd.C_drew ?_))); (case side2 => exact (Kd.R_reads' HO_452000.out).2.1); rintro e w35 ⟨rfl, hb⟩; replace HO_452000 := hob_ HO_452000 hb; replace BK447 := bkb_ BK447 hb; replace BK451 := bkb_ BK451 hb; replace HB := hbs_ hb; clear hb))
        (try simp only [Act.put, List.setIfInBounds_toArray, List.set_cons_zero, List.set_cons_succ])
        have H := HC31.out
        clear HC31
        by_cases c36 : t465 = true
        ·subst c36
         replace H := ite_t_ H
         simp only [Option.some.injEq, Prod.mk.injEq] at H
         obtain ⟨rfl, rfl⟩ := H
         have hnb37 := NB451_447.out
         have hnc37 := NB447_451.out
         have hcz38 := blk_cell BK451.out
         have hfz38 := blk_frozen BK451.out
         have hcz39 := blk_cell BK447.out
         have hfz39 := blk_frozen BK447.out
         go_wp2
         refine bodyPost_ret (results_ct rfl _ _ gb447 27 #[.slice Ao34 x452000_2.length co34] (0, 0) _ rfl (bk_ BK447) Try.underlying27 rfl (by kernel_rfl)) rfl ?_
         exact ⟨_, eq_, by (with_reducible repeat (first | apply Kd.R_alloc | apply Kd.R_drewN | apply Kd.R_drew)); exact Kd.R_mono (Kd.R_far (p := ⟨gb447, 0, none⟩) (Kd.R_types HO_452000.out BK447.out (by decide)) (fun _ hk => hk.2) (.slice Ao34 x452000_2.length co34)) (fun _ hk => trivial), bl_⟩
        ·replace c36 := Bool.eq_false_iff.mpr c36
         subst c36
         replace H := ite_f_ H
         simp only [Option.some.injEq, Prod.mk.injEq] at H
         obtain ⟨rfl, rfl⟩ := H
         have hnb40 := NB447_451.out
         have hnc40 := NB451_447.out
         have hcz41 := blk_cell BK447.out
         have hfz41 := blk_frozen BK447.out
         go_wp2
         refine bodyPost_ret (results_ct rfl _ _ gb447 27 #[.slice none 0 0] (0, 0) _ rfl (bk_ BK447) Try.underlying27 rfl (by kernel_rfl)) rfl ?_
         exact ⟨_, eq_, by first | exact Kd.R_nil _ _ _ _ _ | exact Kd.N_nil _ _ _ _ _ | exact Kd.V_nil _ _ _ _ _ | exact Kd.Q_nil _ _ _ _ _ | exact Kd.S_nil _ _ _ _ _, bl_⟩
       ·rw [if_neg c29] at H
        have c29b0 : (x5_2 == (a0.size : Int)) = false := beq_eq_false_iff_ne.mpr c29
        have c29b1 : (x5_2 != (a0.size : Int)) = true := bne_iff_ne.mpr c29
        simp only [Option.some.injEq, Prod.mk.injEq] at H
        obtain ⟨rfl, rfl⟩ := H
        have hnb42 := NB447_451.out
        have hnc42 := NB451_447.out
        have hcz43 := blk_cell BK447.out
        have hfz43 := blk_frozen BK447.out
        go_wp2
        refine bodyPost_ret (results_ct rfl _ _ gb447 27 #[.slice none 0 0] (0, 0) _ rfl (bk_ BK447) Try.underlying27 rfl (by kernel_rfl)) rfl ?_
        exact ⟨_, eq_, by first | exact Kd.R_nil _ _ _ _ _ | exact Kd.N_nil _ _ _ _ _ | exact Kd.V_nil _ _ _ _ _ | exact Kd.Q_nil _ _ _ _ _ | exact Kd.S_nil _ _ _ _ _, bl_⟩
end Go.Proofs.Ytnoklfpnmopkpaa.PE
