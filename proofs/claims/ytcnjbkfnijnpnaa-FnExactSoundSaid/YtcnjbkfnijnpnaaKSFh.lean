import Derived.Shelf.Abstract
import Derived.Test.YtcnjbkfnijnpnaaKSPAx11
namespace Go.Proofs.Ytcnjbkfnijnpnaa.PA
open Go.RowKit Go.Proofs.YtcnjbkfnijnpnaaW.PrintWords Go.Proofs.YtcnjbkfnijnpnaaW.PrintLast Go.Proofs.YtcnjbkfnijnpnaaW.PrintMore
attribute [local go_sem] max2_int min2_int max_two min_two max_three min_three max_four min_four
set_option linter.unusedVariables false
set_option linter.unusedSimpArgs false
abbrev aggC (x : S61) : Value := .agg #[.int .i64 x.f0, .int .i64 x.f1.f0, .int .i64 x.f1.f1, .int .i64 x.f2, .int .i64 x.f3.f0, .int .i64 x.f3.f1, .int .i64 x.f4.f0, .int .i64 x.f4.f1, .int .i64 x.f5, .int .i64 x.f6]
def FnOk (q : S61 → Option Bool) (g : Nat) (W : World) : Prop := ∀ x r, q x = some r → Calls Try.prog 27 #[aggC x, .pointer (some ⟨g, 0, none⟩)] W fun e w' => e = .returned (.bool r) ∧ Below W.heap.size W w'
def isC (x y : S61) : Bool := (x.f0 == y.f0 && ((x.f1.f0 == y.f1.f0 && (x.f1.f1 == y.f1.f1)) && (x.f2 == y.f2 && ((x.f3.f0 == y.f3.f0 && (x.f3.f1 == y.f3.f1)) && ((x.f4.f0 == y.f4.f0 && (x.f4.f1 == y.f4.f1)) && (x.f5 == y.f5 && (x.f6 == y.f6)))))))
def fnHas (l : List S61) (x : S61) : Option Bool := if l.length ≤ 1048576 then some (!(l.any fun y => isC x y)) else none
theorem idx45 (xs : List S61) (hl : xs.length ≤ 1048576) (x : S61) : ∀ d j : Nat, xs.length - j = d → j ≤ xs.length → ∃ i : Int, impl_Cred_45.l0 (d + 1) xs (xs.length : Int) (j : Int) x.f0 x.f1.f0 x.f1.f1 x.f2 x.f3.f0 x.f3.f1 x.f4.f0 x.f4.f1 x.f5 x.f6 = some i ∧ decide (i ≥ 0) = (xs.drop j).any fun y => isC x y := by
  intro d
  induction d with
  | zero =>
    intro j hd hj
    obtain rfl : j = xs.length := by omega
    refine ⟨-1, ?_, by simp⟩
    simp only [impl_Cred_45.l0, Int.lt_irrefl, if_false]
  | succ d ih =>
    intro j hd hj
    have hjl : j < xs.length := by omega
    obtain ⟨i, h1, h2⟩ := ih (j + 1) (by omega) (by omega)
    have hw : wrap64 ((j : Int) + 1) = ((j + 1 : Nat) : Int) := by unfold wrap64; omega
    have hr : rd_T61 xs (j : Int) = xs[j] := by unfold rd_T61; simp [hjl]
    rw [List.drop_eq_getElem_cons hjl, List.any_cons]
    unfold impl_Cred_45.l0
    rw [if_pos (show (j : Int) < (xs.length : Int) by omega), if_pos (show (0 : Int) ≤ (j : Int) by omega), if_pos (show (j : Int) < (xs.length : Int) by omega), hw, hr]
    show ∃ i : Int, (if isC x xs[j] = true then some (j : Int) else impl_Cred_45.l0 (d + 1) xs (xs.length : Int) ((j + 1 : Nat) : Int) x.f0 x.f1.f0 x.f1.f1 x.f2 x.f3.f0 x.f3.f1 x.f4.f0 x.f4.f1 x.f5 x.f6) = some i ∧ _
    cases hq : isC x xs[j]
    · exact ⟨i, by simpa using h1, by simpa using h2⟩
    · exact ⟨(j : Int), by simp, by simp⟩
theorem has28 (xs : List S61) (hl : xs.length ≤ 1048576) (x : S61) : ∃ k, impl_Cred_28.f k xs x.f0 x.f1.f0 x.f1.f1 x.f2 x.f3.f0 x.f3.f1 x.f4.f0 x.f4.f1 x.f5 x.f6 = some (xs.any fun y => isC x y) := by
  obtain ⟨i, h1, h2⟩ := idx45 xs hl x xs.length 0 rfl (Nat.zero_le _)
  refine ⟨xs.length + 1, ?_⟩
  unfold impl_Cred_28.f impl_Cred_45.f
  have e : impl_Cred_45.l0 (xs.length + 1) xs (xs.length : Int) 0 x.f0 x.f1.f0 x.f1.f1 x.f2 x.f3.f0 x.f3.f1 x.f4.f0 x.f4.f1 x.f5 x.f6 = some i := h1
  rw [e, Option.bind_some, h2, List.drop_zero]
set_option maxHeartbeats 4000000 in
set_option maxRecDepth 100000 in
theorem fnHas_ok (xs : List S61) (g : Nat) {A0 : Option Addr} {c0 : Nat} {W : World} {cs : Array Value} (hbox : W.heap[g]? = some (.cells cs 40 (0, 0))) (hat : cs[3]? = some (.slice A0 xs.length c0)) (hr : Kd.C k61 W A0 xs.length xs) (hc : xs.length ≤ c0): FnOk (fnHas xs) g W := by
  intro x r h
  unfold fnHas at h
  by_cases hl : xs.length ≤ 1048576
  case neg => rw [if_neg hl] at h; cases h
  rw [if_pos hl] at h
  obtain rfl := Option.some.inj h
  clear h
  obtain ⟨k, hk⟩ := has28 xs hl x
  have hu36 := Try.underlying36
  have hu61 := Try.underlying61
  have hu40 := Try.underlying40
  have BK := Aside0.mk hbox
  have HR0 := Aside0.mk hr
  have HC0 := Aside0.mk hc
  have H := Aside0.mk hk
  have HA := Aside0.mk hat
  have HB := Aside0.mk (Below.refl W.heap.size W)
  clear hr hc hk hbox hat hl
  go_enter Try.func27, Try.ntmps27
  go_wp2_with (first | ((with_reducible refine gate_dst (N := 2) rfl ?_); refine box_event ?hg (N := 2) ?hd (cs := #[.int .i64 x.f0, .int .i64 x.f1.f0, .int .i64 x.f1.f1, .int .i64 x.f2, .int .i64 x.f3.f0, .int .i64 x.f3.f1, .int .i64 x.f4.f0, .int .i64 x.f4.f1, .int .i64 x.f5, .int .i64 x.f6]) (t := 61) ?hr ?_; (case hd => rfl); (case hg => rfl); (case hr => first | (go_simp; done) | (go_simp; rfl)); intro gb2 hg w5 hbox hb; have BK2 := Aside0.mk hbox; have hcz := blk_cell BK2.out; have hfz := blk_frozen BK2.out; have hs0 := (blk_cell (blk_below BK.out hb) 3).trans HA.out; have HB := Aside0.mk hb; clear hb hbox hg) | ((with_reducible refine gate_callee (f := 28) rfl ?_); refine goesC_ (some 7) Try.func28 #[.slice A0 xs.length c0, aggC x] ?_; (with_reducible refine (impl_Cred_28.calls k A0 c0 xs x.f0 x.f1.f0 x.f1.f1 x.f2 x.f3.f0 x.f3.f1 x.f4.f0 x.f4.f1 x.f5 x.f6 (xs.any fun y => isC x y) _ ?side1 ?side2 H.out).mono ?_); (case side1 => exact Kd.C_below HR0.out HB.out); (case side2 => exact HC0.out); rintro e w8 ⟨rfl, hb⟩; refine ⟨_, rfl, ?_⟩; replace HB := hbs_ hb; clear hb))
  go_ret
  exact ⟨by first | rfl | (simp; done), bl_⟩
end Go.Proofs.Ytcnjbkfnijnpnaa.PA
