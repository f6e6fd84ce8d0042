import Derived.Test.YtjpjidgfcljpcaaKEPAx6
-- printed by wip/tools
namespace Go.Proofs.Ytjpjidgfcljpcaa.PA
open Go.RowKit Go.Proofs.YtjpjidgfcljpcaaW.PrintWords Go.Proofs.YtjpjidgfcljpcaaW.PrintLast Go.Proofs.YtjpjidgfcljpcaaW.PrintMore
attribute [local go_sem] max2_int min2_int max_two min_two max_three min_three max_four min_four
set_option linter.unusedVariables false
set_option linter.unusedSimpArgs false
attribute [local go_sem high] eqA49
def slices_Sort_int_int.f (l0 : List (Int)) : Option (List (Int)) := if l0.length < 4611686018427387904 then some (l0.mergeSort fun x y => decide (x ≤ y)) else none
open Go.Sort in
theorem slices_Sort_int_int.calls (P0_ : Nat → Prop) (u9000_ : Value) (l0 : List (Int)) (r0 : List (Int)) (w0 w : World) (hB : Below w0.heap.size w0 w) (ho0 : Kd.R (Kd.int .i64) 3 w w0.heap.size P0_ u9000_ l0) (h : slices_Sort_int_int.f l0 = some r0) :
  Calls Try.prog 97 #[u9000_] w fun e w' => e = .returned (.tuple #[]) ∧ Kd.R (Kd.int .i64) 3 w' w0.heap.size (fun k_ => (P0_ k_ ∨ w.heap.size ≤ k_)) u9000_ r0 ∧ Below w0.heap.size w0 w' ∧ Kept w w' (fun k_ => P0_ k_) := by
 unfold slices_Sort_int_int.f at h
 by_cases hl : l0.length < 4611686018427387904
 ·rw [if_pos hl] at h
  obtain rfl := Option.some.inj h
  have hml : (l0.mergeSort fun x y => decide (x ≤ y)).length = l0.length := List.length_mergeSort _
  have hown := Kd.own_of_R (enc := Value.int .i64) ho0
  obtain ⟨e1, hf⟩ := hown
  rcases hf with ⟨rfl, hn⟩ | ⟨g, cap, cur, rfl, hg, hb, hn, hc, hs, ht⟩
  ·have e0 : l0 = [] := List.length_eq_zero_iff.1 hn
   subst e0
   have hcon := Any.slices_Sort_int_none Try.lays189 none 0 w
   change Calls Try.prog 97 _ _ _ at hcon
   refine hcon.mono ?_
   rintro e w' ⟨rfl, rfl⟩
   have e1 : (([] : List Int).mergeSort fun x y => decide (x ≤ y)) = [] := by simp
   rw [e1]
   exact ⟨rfl, Kd.R_nil _ _ _ _ _, hB, Kept.refl _ _⟩
  ·have hcon := Any.slices_Sort_int Try.lays189 g 0 cap l0 w (holds_of_blockI hb (by rw [Nat.mul_one] at ht; exact ht)) (blk_lt hb) hl
   change Calls Try.prog 97 _ _ _ at hcon
   refine hcon.mono ?_
   rintro e w' ⟨rfl, n, os, rfl⟩
   refine ⟨rfl, ?_, hB.grown (grownBy_sortedI _) hB.size (fun k hk => by injection hk with hk; omega), Kept.of_grown (grownBy_sortedI _) (Kept.refl _ _) (fun k hk => .inl (ho0.1 k hk))⟩
   have ho := ownsRow_sortedI (n := n) (os := os) hml hg hb hn hc hs
   rw [← hml] at ho ⊢
   exact Kd.R_of_own ho (fun k hk => .inl (ho0.1 k hk))
 ·rw [if_neg hl] at h
  exact absurd h (by simp)
def spec_l01In.f (a0 : Int) (a1 : Int) (a2 : Int) : Option (Bool) := if a0 ≥ a1 then (some (decide (a0 ≤ a2))) else (some false)
set_option maxHeartbeats 8000000 in
set_option maxRecDepth 100000 in
theorem spec_l01In.calls (a0 : Int) (a1 : Int) (a2 : Int) (r : Bool) (w : World) (h : spec_l01In.f a0 a1 a2 = some r) :
  Calls Try.prog 107 #[.int .i64 a0, .int .i64 a1, .int .i64 a2] w fun e w' => e = .returned (.bool r) ∧ Drawn0 w w' := by
 have H : (if a0 ≥ a1 then (some (decide (a0 ≤ a2))) else (some false)) = some r := h
 clear h
 by_cases c4 : a0 ≥ a1
 ·rw [if_pos c4] at H
  have c4b0 : decide (a1 ≤ a0) = true := decide_eq_true c4
  clear c4
  obtain rfl := Option.some.inj H
  go_enter Try.func107, Try.ntmps107
  go_wp2
  go_ret
  exact ⟨by first | rfl | (simp; done) | (simp [*]; done), by repeat (first | exact Drawn0.refl _ | apply Drawn0.step)⟩
 ·rw [if_neg c4] at H
  have c4b0 : decide (a1 ≤ a0) = false := decide_eq_false c4
  clear c4
  obtain rfl := Option.some.inj H
  go_enter Try.func107, Try.ntmps107
  go_wp2
  go_ret
  exact ⟨by first | rfl | (simp; done) | (simp [*]; done), by repeat (first | exact Drawn0.refl _ | apply Drawn0.step)⟩
def spec_RoleOk.f (a0_0 : Int) (a0_1 : Int) : Option (Bool) := (spec_l01In.f a0_0 0 5).bind fun t314 => (if t314 = true then ((spec_l01In.f a0_1 0 3).bind fun t315 => (some t315)) else (some false))
set_option maxHeartbeats 8000000 in
set_option maxRecDepth 100000 in
theorem spec_RoleOk.calls (a0_0 : Int) (a0_1 : Int) (r : Bool) (w : World) (h : spec_RoleOk.f a0_0 a0_1 = some r) :
  Calls Try.prog 123 #[.agg #[.int .i64 a0_0, .int .i64 a0_1]] w fun e w' => e = .returned (.bool r) ∧ Below w.heap.size w w' := by
 have hu49 := Try.underlying49
 have HB := Aside0.mk (Below.refl w.heap.size w)
 have H : ((spec_l01In.f a0_0 0 5).bind fun t314 => (if t314 = true then ((spec_l01In.f a0_1 0 3).bind fun t315 => (some t315)) else (some false))) = some r := h
 clear h
 obtain ⟨t314, A2, H⟩ := bindE_ H
 by_cases c3 : t314 = true
 ·subst c3
  replace H := ite_t_ H
  obtain ⟨t315, A4, H⟩ := bindE_ H
  obtain rfl := Option.some.inj H
  go_enter Try.func123, Try.ntmps123
  go_wp2_with (first | ((with_reducible refine gate_dst (N := 1) rfl ?_); refine box_event ?hg (N := 1) ?hd (cs := #[.int .i64 a0_0, .int .i64 a0_1]) (t := 49) ?hr ?_; (case hd => rfl); (case hg => rfl); (case hr => first | (go_simp; done) | (go_simp; rfl)); intro gb313 hg w5 hbox hb; have BK313 := Aside0.mk (hbox); have GW313 := gs_ hg; have GE313 := gs_ hg; replace HB := hbs_ hb; clear hb hbox hg; have hcz6 := blk_cell BK313.out; have hfz6 := blk_frozen BK313.out) | ((with_reducible refine gate_callee (f := 107) rfl ?_); refine goesC_ (some 5) Try.func107 #[.int .i64 a0_0, .int .i64 0, .int .i64 5] ?_; (with_reducible refine (spec_l01In.calls a0_0 0 5 true _ A2.out).mono ?_); rintro e w' ⟨rfl, ⟨nd, rfl⟩⟩; refine ⟨_, rfl, ?_⟩) | (go_at_call 107; (with_reducible refine (spec_l01In.calls a0_1 0 3 t315 _ A4.out).mono ?_); rintro e w' ⟨rfl, ⟨nd, rfl⟩⟩))
  go_ret
  exact ⟨eq_, bl_⟩
 ·replace c3 := Bool.eq_false_iff.mpr c3
  subst c3
  replace H := ite_f_ H
  obtain rfl := Option.some.inj H
  go_enter Try.func123, Try.ntmps123
  go_wp2_with (first | ((with_reducible refine gate_dst (N := 1) rfl ?_); refine box_event ?hg (N := 1) ?hd (cs := #[.int .i64 a0_0, .int .i64 a0_1]) (t := 49) ?hr ?_; (case hd => rfl); (case hg => rfl); (case hr => first | (go_simp; done) | (go_simp; rfl)); intro gb313 hg w7 hbox hb; have BK313 := Aside0.mk (hbox); have GW313 := gs_ hg; have GE313 := gs_ hg; replace HB := hbs_ hb; clear hb hbox hg; have hcz8 := blk_cell BK313.out; have hfz8 := blk_frozen BK313.out) | ((with_reducible refine gate_callee (f := 107) rfl ?_); refine goesC_ (some 5) Try.func107 #[.int .i64 a0_0, .int .i64 0, .int .i64 5] ?_; (with_reducible refine (spec_l01In.calls a0_0 0 5 false _ A2.out).mono ?_); rintro e w' ⟨rfl, ⟨nd, rfl⟩⟩; refine ⟨_, rfl, ?_⟩))
  go_ret
  exact ⟨eq_, bl_⟩
end Go.Proofs.Ytjpjidgfcljpcaa.PA
