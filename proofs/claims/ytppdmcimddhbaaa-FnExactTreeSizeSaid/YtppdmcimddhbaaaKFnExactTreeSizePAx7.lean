import Derived.Test.YtppdmcimddhbaaaKFnExactTreeSizePAx0
import Derived.Test.YtppdmcimddhbaaaKFnExactTreeSizePAx1
import Derived.Test.YtppdmcimddhbaaaKFnExactTreeSizePAx2
import Derived.Test.YtppdmcimddhbaaaKFnExactTreeSizePAx6
-- A text of this claim: written by the session's own program out of the translation (wip/tools). Lean checks it.
namespace Go.Proofs.Ytppdmcimddhbaaa.PA
open Go.RowKit Go.Proofs.YtppdmcimddhbaaaW.PrintWords Go.Proofs.YtppdmcimddhbaaaW.PrintLast Go.Proofs.YtppdmcimddhbaaaW.PrintMore
attribute [local go_sem] max2_int min2_int max_two min_two max_three min_three max_four min_four   -- for this text's walks alone
set_option linter.unusedVariables false
set_option linter.unusedSimpArgs false
attribute [local go_sem high] eqA27 eqA29
mutual
def impl_StepOk.j0 : Nat → List (S105) → Int → Bool → Int → Int → Int → Int → Int → Int → Int → Int → Int → Int → Int → Int → Int → List Int → Option (Bool)
 | 0, _, _, _, _, _, _, _, _, _, _, _, _, _, _, _, _, _ => none
 | k + 1, x0, x1, x34, x240000, x240001, x240002, x240003, x240004, x240005, x240006, x240007, x240008, x240009, x240010, x240011, x240012, x240013 => if x34 = true then (some false) else (impl_StepOk.l0 k x0 x1 (([] : List (S29))) x240013 (x240013.length : Int) 0 x240000 x240001 x240002 x240003 x240004 x240005 x240006 x240007 x240008 x240009 x240010 x240011 x240012 x240013)
def impl_StepOk.l0 : Nat → List (S105) → Int → List (S29) → List Int → Int → Int → Int → Int → Int → Int → Int → Int → Int → Int → Int → Int → Int → Int → Int → List Int → Option (Bool)
 | 0, _, _, _, _, _, _, _, _, _, _, _, _, _, _, _, _, _, _, _, _ => none
 | k + 1, x0, x1, x6, x37, x38, x39, x240000, x240001, x240002, x240003, x240004, x240005, x240006, x240007, x240008, x240009, x240010, x240011, x240012, x240013 => if x39 < x38 then (if 0 ≤ x39 then (if x39 < (x37.length : Int) then ((impl_shown.f x0 x1 (rd x37 x39)).bind fun bt245 => (if bt245.2.2.2 = true then (if x6.length < 5864062014805 then (impl_StepOk.l0 k x0 x1 (x6 ++ [(⟨(⟨bt245.1, bt245.2.1⟩ : S27), bt245.2.2.1⟩ : S29)]) x37 x38 (wrap64 (x39 + 1)) x240000 x240001 x240002 x240003 x240004 x240005 x240006 x240007 x240008 x240009 x240010 x240011 x240012 x240013) else (none)) else (some false))) else (none)) else (none)) else (if x240000 = 1 then (if (x6.length : Int) = 0 then (some (x240012 == x240003)) else (some false)) else (if x240000 = 2 then (if (x6.length : Int) = 1 then (if 0 < (x6.length : Int) then (some ((((rd_T29 x6 0).f0.f0) == x240004 && (((rd_T29 x6 0).f0.f1) == x240005)) && (((rd_T29 x6 0).f1) == x240012))) else (none)) else (some false)) else (if x240000 = 3 then (if (x6.length : Int) = 2 then (if 0 < (x6.length : Int) then (if (((rd_T29 x6 0).f0.f0) == x240004 && (((rd_T29 x6 0).f0.f1) == x240005)) = true then (if 1 < (x6.length : Int) then (some ((((rd_T29 x6 1).f0.f0) == ((rd_T29 x6 0).f1) && (((rd_T29 x6 1).f0.f1) == x240007)) && (((rd_T29 x6 1).f1) == x240012))) else (none)) else (some false)) else (none)) else (some false)) else (if (x6.length : Int) = 2 then (if 0 < (x6.length : Int) then (if ((((rd_T29 x6 0).f0.f0) == x240004 && (((rd_T29 x6 0).f0.f1) == x240005)) && (((rd_T29 x6 0).f1) == x240012)) = true then (if 1 < (x6.length : Int) then (some ((((rd_T29 x6 1).f0.f0) == x240006 && (((rd_T29 x6 1).f0.f1) == x240007)) && (((rd_T29 x6 1).f1) == x240012))) else (none)) else (some false)) else (none)) else (some false)))))
end
def impl_StepOk.f (k : Nat) (l0 : List (S105)) (a1 : Int) : Option (Bool) := (impl_in.f a1 0 (wrap64 ((l0.length : Int) - 1))).bind fun t237 => (if t237 = true then (if 0 ≤ a1 then (if a1 < (l0.length : Int) then ((impl_CredOk.f k ((rd_T105 l0 a1).f0.f0) ((rd_T105 l0 a1).f0.f1.f0) ((rd_T105 l0 a1).f0.f1.f1) ((rd_T105 l0 a1).f0.f2) ((rd_T105 l0 a1).f0.f3.f0) ((rd_T105 l0 a1).f0.f3.f1) ((rd_T105 l0 a1).f0.f4.f0) ((rd_T105 l0 a1).f0.f4.f1) ((rd_T105 l0 a1).f0.f5) ((rd_T105 l0 a1).f0.f6)).bind fun t240 => (if t240 = true then (impl_StepOk.j0 k l0 a1 (!(((rd_T105 l0 a1).f1.f0.f0) == ((rd_T105 l0 a1).f0.f1.f0)) || (!(((rd_T105 l0 a1).f1.f0.f1) == ((rd_T105 l0 a1).f0.f1.f1)))) ((rd_T105 l0 a1).f0.f0) ((rd_T105 l0 a1).f0.f1.f0) ((rd_T105 l0 a1).f0.f1.f1) ((rd_T105 l0 a1).f0.f2) ((rd_T105 l0 a1).f0.f3.f0) ((rd_T105 l0 a1).f0.f3.f1) ((rd_T105 l0 a1).f0.f4.f0) ((rd_T105 l0 a1).f0.f4.f1) ((rd_T105 l0 a1).f0.f5) ((rd_T105 l0 a1).f0.f6) ((rd_T105 l0 a1).f1.f0.f0) ((rd_T105 l0 a1).f1.f0.f1) ((rd_T105 l0 a1).f1.f1) ((rd_T105 l0 a1).f2)) else (impl_StepOk.j0 k l0 a1 true ((rd_T105 l0 a1).f0.f0) ((rd_T105 l0 a1).f0.f1.f0) ((rd_T105 l0 a1).f0.f1.f1) ((rd_T105 l0 a1).f0.f2) ((rd_T105 l0 a1).f0.f3.f0) ((rd_T105 l0 a1).f0.f3.f1) ((rd_T105 l0 a1).f0.f4.f0) ((rd_T105 l0 a1).f0.f4.f1) ((rd_T105 l0 a1).f0.f5) ((rd_T105 l0 a1).f0.f6) ((rd_T105 l0 a1).f1.f0.f0) ((rd_T105 l0 a1).f1.f0.f1) ((rd_T105 l0 a1).f1.f1) ((rd_T105 l0 a1).f2)))) else (none)) else (none)) else (some false))
set_option maxHeartbeats 8000000 in
set_option maxRecDepth 100000 in
theorem impl_StepOk.calls (k : Nat) (A0 : Option Addr) (c0 : Nat) (l0 : List (S105)) (a1 : Int) (r : Bool) (w : World) (hr0 : Kd.C k105 w A0 l0.length l0) (hc0 : l0.length ≤ c0) (h : impl_StepOk.f k l0 a1 = some r) :
  Calls Try.prog 129 #[.slice A0 l0.length c0, .int .i64 a1] w fun e w' => e = .returned (.bool r) ∧ Below w.heap.size w w' := by
 have hu105 := Try.underlying105
 have hu46 := Try.underlying46
 have hu27 := Try.underlying27
 have hu29 := Try.underlying29
 have HR0 := Aside0.mk hr0
 have HC0 := Aside0.mk hc0
 clear hr0 hc0
 have HB := Aside0.mk (Below.refl w.heap.size w)
 have H : ((impl_in.f a1 0 (wrap64 ((l0.length : Int) - 1))).bind fun t237 => (if t237 = true then (if 0 ≤ a1 then (if a1 < (l0.length : Int) then ((impl_CredOk.f k ((rd_T105 l0 a1).f0.f0) ((rd_T105 l0 a1).f0.f1.f0) ((rd_T105 l0 a1).f0.f1.f1) ((rd_T105 l0 a1).f0.f2) ((rd_T105 l0 a1).f0.f3.f0) ((rd_T105 l0 a1).f0.f3.f1) ((rd_T105 l0 a1).f0.f4.f0) ((rd_T105 l0 a1).f0.f4.f1) ((rd_T105 l0 a1).f0.f5) ((rd_T105 l0 a1).f0.f6)).bind fun t240 => (if t240 = true then (impl_StepOk.j0 k l0 a1 (!(((rd_T105 l0 a1).f1.f0.f0) == ((rd_T105 l0 a1).f0.f1.f0)) || (!(((rd_T105 l0 a1).f1.f0.f1) == ((rd_T105 l0 a1).f0.f1.f1)))) ((rd_T105 l0 a1).f0.f0) ((rd_T105 l0 a1).f0.f1.f0) ((rd_T105 l0 a1).f0.f1.f1) ((rd_T105 l0 a1).f0.f2) ((rd_T105 l0 a1).f0.f3.f0) ((rd_T105 l0 a1).f0.f3.f1) ((rd_T105 l0 a1).f0.f4.f0) ((rd_T105 l0 a1).f0.f4.f1) ((rd_T105 l0 a1).f0.f5) ((rd_T105 l0 a1).f0.f6) ((rd_T105 l0 a1).f1.f0.f0) ((rd_T105 l0 a1).f1.f0.f1) ((rd_T105 l0 a1).f1.f1) ((rd_T105 l0 a1).f2)) else (impl_StepOk.j0 k l0 a1 true ((rd_T105 l0 a1).f0.f0) ((rd_T105 l0 a1).f0.f1.f0) ((rd_T105 l0 a1).f0.f1.f1) ((rd_T105 l0 a1).f0.f2) ((rd_T105 l0 a1).f0.f3.f0) ((rd_T105 l0 a1).f0.f3.f1) ((rd_T105 l0 a1).f0.f4.f0) ((rd_T105 l0 a1).f0.f4.f1) ((rd_T105 l0 a1).f0.f5) ((rd_T105 l0 a1).f0.f6) ((rd_T105 l0 a1).f1.f0.f0) ((rd_T105 l0 a1).f1.f0.f1) ((rd_T105 l0 a1).f1.f1) ((rd_T105 l0 a1).f2)))) else (none)) else (none)) else (some false))) = some r := h
 clear h
 obtain ⟨t237, A3, H⟩ := bindE_ H
 by_cases c4 : t237 = true
 ·subst c4
  replace H := ite_t_ H
  by_cases c5 : 0 ≤ a1
  ·rw [if_pos c5] at H
   have c5b0 : decide (0 ≤ a1) = true := decide_eq_true c5
   clear c5
   by_cases c6 : a1 < (l0.length : Int)
   ·rw [if_pos c6] at H
    have c6b0 : decide (a1 < (l0.length : Int)) = true := decide_eq_true c6
    clear c6
    have HC7 := Aside0.mk H
    clear H
    go_enter Try.func129, Try.ntmps129
    go_upto_region 4 with (first | (go_at_call 83; (with_reducible refine (impl_in.calls a1 0 (wrap64 ((l0.length : Int) - 1)) true _ A3.out).mono ?_); rintro e w' ⟨rfl, ⟨nd, rfl⟩⟩; (try first | exact ⟨rfl, _, World.drewN_drewN _ _ _⟩ | exact ⟨rfl, _, Eq.trans (World.drewN_drewN _ _ _) (congrArg (World.drewN _) (Nat.add_assoc _ _ _))⟩); have p238 : 0 ≤ (a1 : Int) := of_decide_eq_true (by first | (with_reducible assumption) | assumption); have q238 : a1 < (l0.length : Int) := of_decide_eq_true (by first | (with_reducible assumption) | assumption); obtain ⟨ad238, A238_13, c238_13, e238, hx238_0, hx238_1, hx238_2, hx238_3, hx238_4, hx238_5, hx238_6, hx238_7, hx238_8, hx238_9, hx238_10, hx238_11, hx238_12, hx238_13, hl238_13, hi238_13⟩ := at_T105 HR0.out a1 p238 q238; cases e238; have HR238_13 := Aside0.mk hi238_13; have HC238_13 := Aside0.mk hl238_13; clear hi238_13 hl238_13; replace p238 := eq_true p238; replace q238 := eq_true q238) | ((with_reducible refine gate_dst (N := 5) rfl ?_); refine box_event ?hg (N := 5) ?hd (cs := #[.int .i64 0, .int .i64 0, .int .i64 0, .int .i64 0, .int .i64 0, .int .i64 0, .int .i64 0, .int .i64 0, .int .i64 0, .int .i64 0, .int .i64 0, .int .i64 0, .int .i64 0, .slice none 0 0]) (t := 105) ?hr ?_; (case hd => rfl); (case hg => rfl); (case hr => first | (go_simp; done) | (go_simp; rfl)); intro gb239 hg w8 hbox hb; have BK239 := Aside0.mk (hbox); have GW239 := gs_ hg; have GE239 := gs_ hg; replace HB := hbs_ hb; clear hb hbox hg; have hcz9 := blk_cell BK239.out; have hfz9 := blk_frozen BK239.out))
    repeat (go_quiet (first | (go_at_call 83; (with_reducible refine (impl_in.calls a1 0 (wrap64 ((l0.length : Int) - 1)) true _ A3.out).mono ?_); rintro e w' ⟨rfl, ⟨nd, rfl⟩⟩; (try first | exact ⟨rfl, _, World.drewN_drewN _ _ _⟩ | exact ⟨rfl, _, Eq.trans (World.drewN_drewN _ _ _) (congrArg (World.drewN _) (Nat.add_assoc _ _ _))⟩); have p238 : 0 ≤ (a1 : Int) := of_decide_eq_true (by first | (with_reducible assumption) | assumption); have q238 : a1 < (l0.length : Int) := of_decide_eq_true (by first | (with_reducible assumption) | assumption); obtain ⟨ad238, A238_13, c238_13, e238, hx238_0, hx238_1, hx238_2, hx238_3, hx238_4, hx238_5, hx238_6, hx238_7, hx238_8, hx238_9, hx238_10, hx238_11, hx238_12, hx238_13, hl238_13, hi238_13⟩ := at_T105 HR0.out a1 p238 q238; cases e238; have HR238_13 := Aside0.mk hi238_13; have HC238_13 := Aside0.mk hl238_13; clear hi238_13 hl238_13; replace p238 := eq_true p238; replace q238 := eq_true q238) | ((with_reducible refine gate_dst (N := 5) rfl ?_); refine box_event ?hg (N := 5) ?hd (cs := #[.int .i64 0, .int .i64 0, .int .i64 0, .int .i64 0, .int .i64 0, .int .i64 0, .int .i64 0, .int .i64 0, .int .i64 0, .int .i64 0, .int .i64 0, .int .i64 0, .int .i64 0, .slice none 0 0]) (t := 105) ?hr ?_; (case hd => rfl); (case hg => rfl); (case hr => first | (go_simp; done) | (go_simp; rfl)); intro gb239 hg w8 hbox hb; have BK239 := Aside0.mk (hbox); have GW239 := gs_ hg; have GE239 := gs_ hg; replace HB := hbs_ hb; clear hb hbox hg; have hcz9 := blk_cell BK239.out; have hfz9 := blk_frozen BK239.out)); go_upto_region 4 with (first | (go_at_call 83; (with_reducible refine (impl_in.calls a1 0 (wrap64 ((l0.length : Int) - 1)) true _ A3.out).mono ?_); rintro e w' ⟨rfl, ⟨nd, rfl⟩⟩; (try first | exact ⟨rfl, _, World.drewN_drewN _ _ _⟩ | exact ⟨rfl, _, Eq.trans (World.drewN_drewN _ _ _) (congrArg (World.drewN _) (Nat.add_assoc _ _ _))⟩); have p238 : 0 ≤ (a1 : Int) := of_decide_eq_true (by first | (with_reducible assumption) | assumption); have q238 : a1 < (l0.length : Int) := of_decide_eq_true (by first | (with_reducible assumption) | assumption); obtain ⟨ad238, A238_13, c238_13, e238, hx238_0, hx238_1, hx238_2, hx238_3, hx238_4, hx238_5, hx238_6, hx238_7, hx238_8, hx238_9, hx238_10, hx238_11, hx238_12, hx238_13, hl238_13, hi238_13⟩ := at_T105 HR0.out a1 p238 q238; cases e238; have HR238_13 := Aside0.mk hi238_13; have HC238_13 := Aside0.mk hl238_13; clear hi238_13 hl238_13; replace p238 := eq_true p238; replace q238 := eq_true q238) | ((with_reducible refine gate_dst (N := 5) rfl ?_); refine box_event ?hg (N := 5) ?hd (cs := #[.int .i64 0, .int .i64 0, .int .i64 0, .int .i64 0, .int .i64 0, .int .i64 0, .int .i64 0, .int .i64 0, .int .i64 0, .int .i64 0, .int .i64 0, .int .i64 0, .int .i64 0, .slice none 0 0]) (t := 105) ?hr ?_; (case hd => rfl); (case hg => rfl); (case hr => first | (go_simp; done) | (go_simp; rfl)); intro gb239 hg w8 hbox hb; have BK239 := Aside0.mk (hbox); have GW239 := gs_ hg; have GE239 := gs_ hg; replace HB := hbs_ hb; clear hb hbox hg; have hcz9 := blk_cell BK239.out; have hfz9 := blk_frozen BK239.out)))
    (try simp only [Act.put, List.setIfInBounds_toArray, List.set_cons_zero, List.set_cons_succ])
    go_cut [34] (fun v34 wc => ∃ (kq : Nat) (x34_6 : Bool), v34 = .bool x34_6 ∧ Aside0 (impl_StepOk.j0 kq l0 a1 x34_6 ((rd_T105 l0 a1).f0.f0) ((rd_T105 l0 a1).f0.f1.f0) ((rd_T105 l0 a1).f0.f1.f1) ((rd_T105 l0 a1).f0.f2) ((rd_T105 l0 a1).f0.f3.f0) ((rd_T105 l0 a1).f0.f3.f1) ((rd_T105 l0 a1).f0.f4.f0) ((rd_T105 l0 a1).f0.f4.f1) ((rd_T105 l0 a1).f0.f5) ((rd_T105 l0 a1).f0.f6) ((rd_T105 l0 a1).f1.f0.f0) ((rd_T105 l0 a1).f1.f0.f1) ((rd_T105 l0 a1).f1.f1) ((rd_T105 l0 a1).f2) = some r) ∧ Aside0 (kq ≤ k) ∧ Aside0 (wc.heap[gb239]? = some (.cells #[.int .i64 ((rd_T105 l0 a1).f0.f0), .int .i64 ((rd_T105 l0 a1).f0.f1.f0), .int .i64 ((rd_T105 l0 a1).f0.f1.f1), .int .i64 ((rd_T105 l0 a1).f0.f2), .int .i64 ((rd_T105 l0 a1).f0.f3.f0), .int .i64 ((rd_T105 l0 a1).f0.f3.f1), .int .i64 ((rd_T105 l0 a1).f0.f4.f0), .int .i64 ((rd_T105 l0 a1).f0.f4.f1), .int .i64 ((rd_T105 l0 a1).f0.f5), .int .i64 ((rd_T105 l0 a1).f0.f6), .int .i64 ((rd_T105 l0 a1).f1.f0.f0), .int .i64 ((rd_T105 l0 a1).f1.f0.f1), .int .i64 ((rd_T105 l0 a1).f1.f1), (.slice A238_13 ((rd_T105 l0 a1).f2).length c238_13)] 105 (0, 0))) ∧ Aside0 (Below w.heap.size w wc))
    case first =>
     have H := HC7.out
     clear HC7
     obtain ⟨t240, A10, H⟩ := bindE_ H
     by_cases c11 : t240 = true
     ·subst c11
      replace H := ite_t_ H
      have H' := Aside0.mk H
      clear H
      have hcz12 := blk_cell BK239.out
      have hfz12 := blk_frozen BK239.out
      go_wp2_with (first | (go_at_call 75; (with_reducible refine (impl_CredOk.calls k ((rd_T105 l0 a1).f0.f0) ((rd_T105 l0 a1).f0.f1.f0) ((rd_T105 l0 a1).f0.f1.f1) ((rd_T105 l0 a1).f0.f2) ((rd_T105 l0 a1).f0.f3.f0) ((rd_T105 l0 a1).f0.f3.f1) ((rd_T105 l0 a1).f0.f4.f0) ((rd_T105 l0 a1).f0.f4.f1) ((rd_T105 l0 a1).f0.f5) ((rd_T105 l0 a1).f0.f6) true _ A10.out).mono ?_); rintro e w13 ⟨rfl, hb⟩; replace BK239 := Aside0.mk (blk_below (g := gb239) (o := .cells #[.int .i64 ((rd_T105 l0 a1).f0.f0), .int .i64 ((rd_T105 l0 a1).f0.f1.f0), .int .i64 ((rd_T105 l0 a1).f0.f1.f1), .int .i64 ((rd_T105 l0 a1).f0.f2), .int .i64 ((rd_T105 l0 a1).f0.f3.f0), .int .i64 ((rd_T105 l0 a1).f0.f3.f1), .int .i64 ((rd_T105 l0 a1).f0.f4.f0), .int .i64 ((rd_T105 l0 a1).f0.f4.f1), .int .i64 ((rd_T105 l0 a1).f0.f5), .int .i64 ((rd_T105 l0 a1).f0.f6), .int .i64 ((rd_T105 l0 a1).f1.f0.f0), .int .i64 ((rd_T105 l0 a1).f1.f0.f1), .int .i64 ((rd_T105 l0 a1).f1.f1), .slice A238_13 ((rd_T105 l0 a1).f2).length c238_13] 105 (0, 0)) (bk_ BK239) hb); replace HB := hbs_ hb; clear hb; have hcz14 := blk_cell BK239.out; have hfz14 := blk_frozen BK239.out))
      repeat (go_quiet (first | (go_at_call 75; (with_reducible refine (impl_CredOk.calls k ((rd_T105 l0 a1).f0.f0) ((rd_T105 l0 a1).f0.f1.f0) ((rd_T105 l0 a1).f0.f1.f1) ((rd_T105 l0 a1).f0.f2) ((rd_T105 l0 a1).f0.f3.f0) ((rd_T105 l0 a1).f0.f3.f1) ((rd_T105 l0 a1).f0.f4.f0) ((rd_T105 l0 a1).f0.f4.f1) ((rd_T105 l0 a1).f0.f5) ((rd_T105 l0 a1).f0.f6) true _ A10.out).mono ?_); rintro e w13 ⟨rfl, hb⟩; replace BK239 := Aside0.mk (blk_below (g := gb239) (o := .cells #[.int .i64 ((rd_T105 l0 a1).f0.f0), .int .i64 ((rd_T105 l0 a1).f0.f1.f0), .int .i64 ((rd_T105 l0 a1).f0.f1.f1), .int .i64 ((rd_T105 l0 a1).f0.f2), .int .i64 ((rd_T105 l0 a1).f0.f3.f0), .int .i64 ((rd_T105 l0 a1).f0.f3.f1), .int .i64 ((rd_T105 l0 a1).f0.f4.f0), .int .i64 ((rd_T105 l0 a1).f0.f4.f1), .int .i64 ((rd_T105 l0 a1).f0.f5), .int .i64 ((rd_T105 l0 a1).f0.f6), .int .i64 ((rd_T105 l0 a1).f1.f0.f0), .int .i64 ((rd_T105 l0 a1).f1.f0.f1), .int .i64 ((rd_T105 l0 a1).f1.f1), .slice A238_13 ((rd_T105 l0 a1).f2).length c238_13] 105 (0, 0)) (bk_ BK239) hb); replace HB := hbs_ hb; clear hb; have hcz14 := blk_cell BK239.out; have hfz14 := blk_frozen BK239.out)); try go_wp2_with (first | (go_at_call 75; (with_reducible refine (impl_CredOk.calls k ((rd_T105 l0 a1).f0.f0) ((rd_T105 l0 a1).f0.f1.f0) ((rd_T105 l0 a1).f0.f1.f1) ((rd_T105 l0 a1).f0.f2) ((rd_T105 l0 a1).f0.f3.f0) ((rd_T105 l0 a1).f0.f3.f1) ((rd_T105 l0 a1).f0.f4.f0) ((rd_T105 l0 a1).f0.f4.f1) ((rd_T105 l0 a1).f0.f5) ((rd_T105 l0 a1).f0.f6) true _ A10.out).mono ?_); rintro e w13 ⟨rfl, hb⟩; replace BK239 := Aside0.mk (blk_below (g := gb239) (o := .cells #[.int .i64 ((rd_T105 l0 a1).f0.f0), .int .i64 ((rd_T105 l0 a1).f0.f1.f0), .int .i64 ((rd_T105 l0 a1).f0.f1.f1), .int .i64 ((rd_T105 l0 a1).f0.f2), .int .i64 ((rd_T105 l0 a1).f0.f3.f0), .int .i64 ((rd_T105 l0 a1).f0.f3.f1), .int .i64 ((rd_T105 l0 a1).f0.f4.f0), .int .i64 ((rd_T105 l0 a1).f0.f4.f1), .int .i64 ((rd_T105 l0 a1).f0.f5), .int .i64 ((rd_T105 l0 a1).f0.f6), .int .i64 ((rd_T105 l0 a1).f1.f0.f0), .int .i64 ((rd_T105 l0 a1).f1.f0.f1), .int .i64 ((rd_T105 l0 a1).f1.f1), .slice A238_13 ((rd_T105 l0 a1).f2).length c238_13] 105 (0, 0)) (bk_ BK239) hb); replace HB := hbs_ hb; clear hb; have hcz14 := blk_cell BK239.out; have hfz14 := blk_frozen BK239.out)))
      go_meet
      case rel => exact ⟨_, ((!(((rd_T105 l0 a1).f1.f0.f0) == ((rd_T105 l0 a1).f0.f1.f0)) || (!(((rd_T105 l0 a1).f1.f0.f1) == ((rd_T105 l0 a1).f0.f1.f1))))), (by first | rfl | (simp; done) | (simp [*]; done)), H', ⟨by first | omega | exact Nat.le_refl _⟩, ⟨bk_ BK239⟩, ⟨bl_⟩⟩
     ·replace c11 := Bool.eq_false_iff.mpr c11
      subst c11
      replace H := ite_f_ H
      have H' := Aside0.mk H
      clear H
      have hcz15 := blk_cell BK239.out
      have hfz15 := blk_frozen BK239.out
      go_wp2_with (first | (go_at_call 75; (with_reducible refine (impl_CredOk.calls k ((rd_T105 l0 a1).f0.f0) ((rd_T105 l0 a1).f0.f1.f0) ((rd_T105 l0 a1).f0.f1.f1) ((rd_T105 l0 a1).f0.f2) ((rd_T105 l0 a1).f0.f3.f0) ((rd_T105 l0 a1).f0.f3.f1) ((rd_T105 l0 a1).f0.f4.f0) ((rd_T105 l0 a1).f0.f4.f1) ((rd_T105 l0 a1).f0.f5) ((rd_T105 l0 a1).f0.f6) false _ A10.out).mono ?_); rintro e w16 ⟨rfl, hb⟩; replace BK239 := Aside0.mk (blk_below (g := gb239) (o := .cells #[.int .i64 ((rd_T105 l0 a1).f0.f0), .int .i64 ((rd_T105 l0 a1).f0.f1.f0), .int .i64 ((rd_T105 l0 a1).f0.f1.f1), .int .i64 ((rd_T105 l0 a1).f0.f2), .int .i64 ((rd_T105 l0 a1).f0.f3.f0), .int .i64 ((rd_T105 l0 a1).f0.f3.f1), .int .i64 ((rd_T105 l0 a1).f0.f4.f0), .int .i64 ((rd_T105 l0 a1).f0.f4.f1), .int .i64 ((rd_T105 l0 a1).f0.f5), .int .i64 ((rd_T105 l0 a1).f0.f6), .int .i64 ((rd_T105 l0 a1).f1.f0.f0), .int .i64 ((rd_T105 l0 a1).f1.f0.f1), .int .i64 ((rd_T105 l0 a1).f1.f1), .slice A238_13 ((rd_T105 l0 a1).f2).length c238_13] 105 (0, 0)) (bk_ BK239) hb); replace HB := hbs_ hb; clear hb))
      repeat (go_quiet (first | (go_at_call 75; (with_reducible refine (impl_CredOk.calls k ((rd_T105 l0 a1).f0.f0) ((rd_T105 l0 a1).f0.f1.f0) ((rd_T105 l0 a1).f0.f1.f1) ((rd_T105 l0 a1).f0.f2) ((rd_T105 l0 a1).f0.f3.f0) ((rd_T105 l0 a1).f0.f3.f1) ((rd_T105 l0 a1).f0.f4.f0) ((rd_T105 l0 a1).f0.f4.f1) ((rd_T105 l0 a1).f0.f5) ((rd_T105 l0 a1).f0.f6) false _ A10.out).mono ?_); rintro e w16 ⟨rfl, hb⟩; replace BK239 := Aside0.mk (blk_below (g := gb239) (o := .cells #[.int .i64 ((rd_T105 l0 a1).f0.f0), .int .i64 ((rd_T105 l0 a1).f0.f1.f0), .int .i64 ((rd_T105 l0 a1).f0.f1.f1), .int .i64 ((rd_T105 l0 a1).f0.f2), .int .i64 ((rd_T105 l0 a1).f0.f3.f0), .int .i64 ((rd_T105 l0 a1).f0.f3.f1), .int .i64 ((rd_T105 l0 a1).f0.f4.f0), .int .i64 ((rd_T105 l0 a1).f0.f4.f1), .int .i64 ((rd_T105 l0 a1).f0.f5), .int .i64 ((rd_T105 l0 a1).f0.f6), .int .i64 ((rd_T105 l0 a1).f1.f0.f0), .int .i64 ((rd_T105 l0 a1).f1.f0.f1), .int .i64 ((rd_T105 l0 a1).f1.f1), .slice A238_13 ((rd_T105 l0 a1).f2).length c238_13] 105 (0, 0)) (bk_ BK239) hb); replace HB := hbs_ hb; clear hb)); try go_wp2_with (first | (go_at_call 75; (with_reducible refine (impl_CredOk.calls k ((rd_T105 l0 a1).f0.f0) ((rd_T105 l0 a1).f0.f1.f0) ((rd_T105 l0 a1).f0.f1.f1) ((rd_T105 l0 a1).f0.f2) ((rd_T105 l0 a1).f0.f3.f0) ((rd_T105 l0 a1).f0.f3.f1) ((rd_T105 l0 a1).f0.f4.f0) ((rd_T105 l0 a1).f0.f4.f1) ((rd_T105 l0 a1).f0.f5) ((rd_T105 l0 a1).f0.f6) false _ A10.out).mono ?_); rintro e w16 ⟨rfl, hb⟩; replace BK239 := Aside0.mk (blk_below (g := gb239) (o := .cells #[.int .i64 ((rd_T105 l0 a1).f0.f0), .int .i64 ((rd_T105 l0 a1).f0.f1.f0), .int .i64 ((rd_T105 l0 a1).f0.f1.f1), .int .i64 ((rd_T105 l0 a1).f0.f2), .int .i64 ((rd_T105 l0 a1).f0.f3.f0), .int .i64 ((rd_T105 l0 a1).f0.f3.f1), .int .i64 ((rd_T105 l0 a1).f0.f4.f0), .int .i64 ((rd_T105 l0 a1).f0.f4.f1), .int .i64 ((rd_T105 l0 a1).f0.f5), .int .i64 ((rd_T105 l0 a1).f0.f6), .int .i64 ((rd_T105 l0 a1).f1.f0.f0), .int .i64 ((rd_T105 l0 a1).f1.f0.f1), .int .i64 ((rd_T105 l0 a1).f1.f1), .slice A238_13 ((rd_T105 l0 a1).f2).length c238_13] 105 (0, 0)) (bk_ BK239) hb); replace HB := hbs_ hb; clear hb)))
      go_meet
      case rel => exact ⟨_, (true), (by first | rfl | (simp; done) | (simp [*]; done)), H', ⟨by first | omega | exact Nat.le_refl _⟩, ⟨bk_ BK239⟩, ⟨bl_⟩⟩
    case rest =>
     clear HC7
     try clear c1
     try clear c2
     try clear p2
     try clear q2
     try clear hx2
     try clear c4
     try clear c5
     try clear c5b0
     try clear c6
     try clear c6b0
     try clear p6
     try clear c11
     try clear c12
     try clear hcz12
     try clear hcz14
     try clear hcz15
     try clear hcz9
     try clear hfz12
     try clear hfz14
     try clear hfz15
     try clear hfz9
     try clear hx238_0
     try clear hx238_1
     try clear hx238_10
     try clear hx238_11
     try clear hx238_12
     try clear hx238_13
     try clear hx238_2
     try clear hx238_3
     try clear hx238_4
     try clear hx238_5
     try clear hx238_6
     try clear hx238_7
     try clear hx238_8
     try clear hx238_9
     try clear p238
     try clear q238
     obtain ⟨kq, x34_6, rfl, HA, HJ6, BK239, HB⟩ := hcut
     cases kq with
     | zero => exact absurd HA.out (by simp [impl_StepOk.j0])
     | succ kj6 =>
      have H := HA.out
      clear HA
      simp only [impl_StepOk.j0] at H
      by_cases c17 : x34_6 = true
      ·subst c17
       replace H := ite_t_ H
       obtain rfl := Option.some.inj H
       go_wp2
       repeat (go_quiet (fail); try go_wp2)
       go_ret
       exact ⟨eq_, bl_⟩
      ·replace c17 := Bool.eq_false_iff.mpr c17
       subst c17
       replace H := ite_f_ H
       obtain ⟨y241, hy241⟩ : ∃ y_ : List (S29), y_ = (([] : List (S29))) := ⟨_, rfl⟩
       replace H : (impl_StepOk.l0 kj6 l0 a1 y241 ((rd_T105 l0 a1).f2) (((rd_T105 l0 a1).f2).length : Int) 0 ((rd_T105 l0 a1).f0.f0) ((rd_T105 l0 a1).f0.f1.f0) ((rd_T105 l0 a1).f0.f1.f1) ((rd_T105 l0 a1).f0.f2) ((rd_T105 l0 a1).f0.f3.f0) ((rd_T105 l0 a1).f0.f3.f1) ((rd_T105 l0 a1).f0.f4.f0) ((rd_T105 l0 a1).f0.f4.f1) ((rd_T105 l0 a1).f0.f5) ((rd_T105 l0 a1).f0.f6) ((rd_T105 l0 a1).f1.f0.f0) ((rd_T105 l0 a1).f1.f0.f1) ((rd_T105 l0 a1).f1.f1) ((rd_T105 l0 a1).f2)) = some r := by first | (rw [hy241]; with_reducible exact H) | (have H2_ := (Option.bind_some _ _).symm.trans H; rw [hy241]; with_reducible exact H2_) | (have H2_ := (Option.bind_some _ _).symm.trans H; with_reducible exact H2_) | with_reducible exact H | (rw [hy241]; exact H) | exact H
       have Ny241 := Aside0.mk hy241
       clear hy241
       have H' := Aside0.mk H
       clear H
       go_wp2_with (first | ((with_reducible refine gate_dst (N := 35) rfl ?_); refine Kd.R_lit k29 _ 29 ?hg (N := 35) ?hd (xs := ([] : List (S29))) (inner := []) (ok := fun _ => True) (okp := fun _ => True) ?hr ?hp (fun _ hk => hk) trivial (Below.refl _ _) (Nat.le_refl _) (by simp) ?_; (case hd => rfl); (case hg => rfl); (case hr => first | (go_simp; done) | (go_simp; rfl)); (case hp => exact (Reps.none _ _)); intro v242 w18 ho19 hb hg_ hnew_; clear hg_ hnew_; (first | rw [← Ny241.out] at ho19 | (simp only [Int.reduceToNat] at ho19; rw [← Ny241.out] at ho19)); have HO243 := Aside0.mk (Kd.R_lower ho19 bls_); replace BK239 := bkb_ BK239 hb; replace HB := hbs_ hb; clear hb ho19; have hcz20 := blk_cell BK239.out; have hfz20 := blk_frozen BK239.out))
       repeat (go_quiet (first | ((with_reducible refine gate_dst (N := 35) rfl ?_); refine Kd.R_lit k29 _ 29 ?hg (N := 35) ?hd (xs := ([] : List (S29))) (inner := []) (ok := fun _ => True) (okp := fun _ => True) ?hr ?hp (fun _ hk => hk) trivial (Below.refl _ _) (Nat.le_refl _) (by simp) ?_; (case hd => rfl); (case hg => rfl); (case hr => first | (go_simp; done) | (go_simp; rfl)); (case hp => exact (Reps.none _ _)); intro v242 w18 ho19 hb hg_ hnew_; clear hg_ hnew_; (first | rw [← Ny241.out] at ho19 | (simp only [Int.reduceToNat] at ho19; rw [← Ny241.out] at ho19)); have HO243 := Aside0.mk (Kd.R_lower ho19 bls_); replace BK239 := bkb_ BK239 hb; replace HB := hbs_ hb; clear hb ho19; have hcz20 := blk_cell BK239.out; have hfz20 := blk_frozen BK239.out)); try go_wp2_with (first | ((with_reducible refine gate_dst (N := 35) rfl ?_); refine Kd.R_lit k29 _ 29 ?hg (N := 35) ?hd (xs := ([] : List (S29))) (inner := []) (ok := fun _ => True) (okp := fun _ => True) ?hr ?hp (fun _ hk => hk) trivial (Below.refl _ _) (Nat.le_refl _) (by simp) ?_; (case hd => rfl); (case hg => rfl); (case hr => first | (go_simp; done) | (go_simp; rfl)); (case hp => exact (Reps.none _ _)); intro v242 w18 ho19 hb hg_ hnew_; clear hg_ hnew_; (first | rw [← Ny241.out] at ho19 | (simp only [Int.reduceToNat] at ho19; rw [← Ny241.out] at ho19)); have HO243 := Aside0.mk (Kd.R_lower ho19 bls_); replace BK239 := bkb_ BK239 hb; replace HB := hbs_ hb; clear hb ho19; have hcz20 := blk_cell BK239.out; have hfz20 := blk_frozen BK239.out)))
       go_loopg [6, 39] kj6 (fun kq v6 v39 w' => ∃ (x6_2 : List (S29)) (x39_2 : Int), v39 = .int .i64 x39_2 ∧ Aside0 (impl_StepOk.l0 kq l0 a1 x6_2 ((rd_T105 l0 a1).f2) (((rd_T105 l0 a1).f2).length : Int) x39_2 ((rd_T105 l0 a1).f0.f0) ((rd_T105 l0 a1).f0.f1.f0) ((rd_T105 l0 a1).f0.f1.f1) ((rd_T105 l0 a1).f0.f2) ((rd_T105 l0 a1).f0.f3.f0) ((rd_T105 l0 a1).f0.f3.f1) ((rd_T105 l0 a1).f0.f4.f0) ((rd_T105 l0 a1).f0.f4.f1) ((rd_T105 l0 a1).f0.f5) ((rd_T105 l0 a1).f0.f6) ((rd_T105 l0 a1).f1.f0.f0) ((rd_T105 l0 a1).f1.f0.f1) ((rd_T105 l0 a1).f1.f1) ((rd_T105 l0 a1).f2) = some r) ∧ Aside0 (kq ≤ kj6) ∧ Aside0 (Kd.R k29 29 w' w.heap.size (fun _ => True) v6 x6_2) ∧ Aside0 (w'.heap[gb239]? = some (.cells #[.int .i64 ((rd_T105 l0 a1).f0.f0), .int .i64 ((rd_T105 l0 a1).f0.f1.f0), .int .i64 ((rd_T105 l0 a1).f0.f1.f1), .int .i64 ((rd_T105 l0 a1).f0.f2), .int .i64 ((rd_T105 l0 a1).f0.f3.f0), .int .i64 ((rd_T105 l0 a1).f0.f3.f1), .int .i64 ((rd_T105 l0 a1).f0.f4.f0), .int .i64 ((rd_T105 l0 a1).f0.f4.f1), .int .i64 ((rd_T105 l0 a1).f0.f5), .int .i64 ((rd_T105 l0 a1).f0.f6), .int .i64 ((rd_T105 l0 a1).f1.f0.f0), .int .i64 ((rd_T105 l0 a1).f1.f0.f1), .int .i64 ((rd_T105 l0 a1).f1.f1), (.slice A238_13 ((rd_T105 l0 a1).f2).length c238_13)] 105 (0, 0))) ∧ Aside0 (Below w.heap.size w w'))
       case atStart => exact ⟨(y241), (0), (by first | rfl | (simp; done) | (simp [*]; done)), H', ⟨Nat.le_refl _⟩, ⟨by (with_reducible repeat (first | apply Kd.R_alloc | apply Kd.R_drewN | apply Kd.R_drew)); exact HO243.out⟩, ⟨bk_ BK239⟩, ⟨bl_⟩⟩
       case round =>
        clear H'
        try clear c1
        try clear c2
        try clear p2
        try clear q2
        try clear hx2
        try clear c4
        try clear c5
        try clear c5b0
        try clear c6
        try clear c6b0
        try clear p6
        try clear c11
        try clear c12
        try clear c17
        try clear hcz12
        try clear hcz14
        try clear hcz15
        try clear hcz20
        try clear hcz9
        try clear hfz12
        try clear hfz14
        try clear hfz15
        try clear hfz20
        try clear hfz9
        try clear hx238_0
        try clear hx238_1
        try clear hx238_10
        try clear hx238_11
        try clear hx238_12
        try clear hx238_13
        try clear hx238_2
        try clear hx238_3
        try clear hx238_4
        try clear hx238_5
        try clear hx238_6
        try clear hx238_7
        try clear hx238_8
        try clear hx238_9
        try clear p2
        try clear p238
        try clear p6
        try clear q2
        try clear q238
        obtain ⟨x6_2, x39_2, rfl, HA, HK2, HO_6, BK239, HB⟩ := hrel
        cases gk with
        | zero => exact absurd HA.out (by simp [impl_StepOk.l0])
        | succ k2 =>
         have H := HA.out
         clear HA
         simp only [impl_StepOk.l0] at H
         by_cases c21 : x39_2 < (((rd_T105 l0 a1).f2).length : Int)
         ·rw [if_pos c21] at H
          have c21b0 : decide (x39_2 < (((rd_T105 l0 a1).f2).length : Int)) = true := decide_eq_true c21
          clear c21
          by_cases c22 : 0 ≤ x39_2
          ·rw [if_pos c22] at H
           have c22b0 : decide (0 ≤ x39_2) = true := decide_eq_true c22
           clear c22
           by_cases c23 : x39_2 < (((rd_T105 l0 a1).f2).length : Int)
           ·rw [if_pos c23] at H
            have c23b0 : decide (x39_2 < (((rd_T105 l0 a1).f2).length : Int)) = true := decide_eq_true c23
            clear c23
            obtain ⟨⟨t245, t246, t247, t248⟩, A24, H⟩ := bindE_ H
            replace H : (if t248 = true then (if x6_2.length < 5864062014805 then (impl_StepOk.l0 k2 l0 a1 (x6_2 ++ [(⟨(⟨t245, t246⟩ : S27), t247⟩ : S29)]) ((rd_T105 l0 a1).f2) (((rd_T105 l0 a1).f2).length : Int) (wrap64 (x39_2 + 1)) ((rd_T105 l0 a1).f0.f0) ((rd_T105 l0 a1).f0.f1.f0) ((rd_T105 l0 a1).f0.f1.f1) ((rd_T105 l0 a1).f0.f2) ((rd_T105 l0 a1).f0.f3.f0) ((rd_T105 l0 a1).f0.f3.f1) ((rd_T105 l0 a1).f0.f4.f0) ((rd_T105 l0 a1).f0.f4.f1) ((rd_T105 l0 a1).f0.f5) ((rd_T105 l0 a1).f0.f6) ((rd_T105 l0 a1).f1.f0.f0) ((rd_T105 l0 a1).f1.f0.f1) ((rd_T105 l0 a1).f1.f1) ((rd_T105 l0 a1).f2)) else (none)) else (some false)) = some r := H
            by_cases c25 : t248 = true
            ·subst c25
             replace H := ite_t_ H
             by_cases c26 : x6_2.length < 5864062014805
             ·rw [if_pos c26] at H
              have LMc26 := Aside0.mk c26
              clear c26
              obtain ⟨y250, hy250⟩ : ∃ y_ : List (S29), y_ = (x6_2 ++ [(⟨(⟨t245, t246⟩ : S27), t247⟩ : S29)]) := ⟨_, rfl⟩
              replace H : (impl_StepOk.l0 k2 l0 a1 y250 ((rd_T105 l0 a1).f2) (((rd_T105 l0 a1).f2).length : Int) (wrap64 (x39_2 + 1)) ((rd_T105 l0 a1).f0.f0) ((rd_T105 l0 a1).f0.f1.f0) ((rd_T105 l0 a1).f0.f1.f1) ((rd_T105 l0 a1).f0.f2) ((rd_T105 l0 a1).f0.f3.f0) ((rd_T105 l0 a1).f0.f3.f1) ((rd_T105 l0 a1).f0.f4.f0) ((rd_T105 l0 a1).f0.f4.f1) ((rd_T105 l0 a1).f0.f5) ((rd_T105 l0 a1).f0.f6) ((rd_T105 l0 a1).f1.f0.f0) ((rd_T105 l0 a1).f1.f0.f1) ((rd_T105 l0 a1).f1.f1) ((rd_T105 l0 a1).f2)) = some r := by first | (rw [hy250]; with_reducible exact H) | (have H2_ := (Option.bind_some _ _).symm.trans H; rw [hy250]; with_reducible exact H2_) | (have H2_ := (Option.bind_some _ _).symm.trans H; with_reducible exact H2_) | with_reducible exact H | (rw [hy250]; exact H) | exact H
              have Ny250 := Aside0.mk hy250
              clear hy250
              have H' := Aside0.mk H
              clear H
              have p244 : 0 ≤ (x39_2 : Int) := of_decide_eq_true (by first | (with_reducible assumption) | assumption)
              have q244 : x39_2 < (((rd_T105 l0 a1).f2).length : Int) := of_decide_eq_true (by first | (with_reducible assumption) | assumption)
              obtain ⟨ad244, e244, hx244_0⟩ := Kd.at_int (Kd.C_below HR238_13.out HB.out) x39_2 p244 q244
              cases e244
              replace p244 := eq_true p244
              replace q244 := eq_true q244
              go_wp2_with (first | (go_at_call 146; (with_reducible refine (impl_shown.calls _ _ l0 a1 (rd ((rd_T105 l0 a1).f2) x39_2) t245 t246 t247 true _ ?side1 ?side2 A24.out).mono ?_); (case side1 => repeat (first | exact (Kd.C_below HR0.out HB.out) | (with_reducible refine Kd.C_alloc ?_ _) | (with_reducible refine Kd.C_drewN ?_ _) | (with_reducible refine Kd.C_drew ?_))); (case side2 => exact HC0.out); rintro e w27 ⟨rfl, hb⟩; replace HO_6 := Aside0.mk (Kd.R_below (by (with_reducible repeat (first | apply Kd.R_alloc | apply Kd.R_drewN | apply Kd.R_drew)); exact HO_6.out) hb); replace BK239 := bkb_ BK239 hb; replace HB := hbs_ hb; clear hb) | ((with_reducible refine gate_dst (N := 9) rfl ?_); refine box_event ?hg (N := 9) ?hd (cs := #[.int .i64 0, .int .i64 0, .int .i64 0]) (t := 29) ?hr ?_; (case hd => rfl); (case hg => rfl); (case hr => first | (go_simp; done) | (go_simp; rfl)); intro gb249 hg w28 hbox hb; replace HO_6 := Aside0.mk (Kd.R_below (Kd.R_elderB (by (with_reducible repeat (first | apply Kd.R_alloc | apply Kd.R_drewN | apply Kd.R_drew)); exact HO_6.out) gb249 (Nat.le_of_eq hg.symm)) hb); have BK249 := Aside0.mk (hbox); have GW249 := gs_ hg; have GE249 := gs_ hg; replace HB := hbs_ hb; have NB239_249 := Aside0.mk ((by rw [hg]; exact Nat.ne_of_lt (blk_lt (g := gb239) (o := .cells #[.int .i64 ((rd_T105 l0 a1).f0.f0), .int .i64 ((rd_T105 l0 a1).f0.f1.f0), .int .i64 ((rd_T105 l0 a1).f0.f1.f1), .int .i64 ((rd_T105 l0 a1).f0.f2), .int .i64 ((rd_T105 l0 a1).f0.f3.f0), .int .i64 ((rd_T105 l0 a1).f0.f3.f1), .int .i64 ((rd_T105 l0 a1).f0.f4.f0), .int .i64 ((rd_T105 l0 a1).f0.f4.f1), .int .i64 ((rd_T105 l0 a1).f0.f5), .int .i64 ((rd_T105 l0 a1).f0.f6), .int .i64 ((rd_T105 l0 a1).f1.f0.f0), .int .i64 ((rd_T105 l0 a1).f1.f0.f1), .int .i64 ((rd_T105 l0 a1).f1.f1), .slice (some ad244) ((rd_T105 l0 a1).f2).length c238_13] 105 (0, 0)) (bk_ BK239)) : gb239 ≠ gb249)); have NB249_239 := Aside0.mk ((by rw [hg]; exact Nat.ne_of_gt (blk_lt (g := gb239) (o := .cells #[.int .i64 ((rd_T105 l0 a1).f0.f0), .int .i64 ((rd_T105 l0 a1).f0.f1.f0), .int .i64 ((rd_T105 l0 a1).f0.f1.f1), .int .i64 ((rd_T105 l0 a1).f0.f2), .int .i64 ((rd_T105 l0 a1).f0.f3.f0), .int .i64 ((rd_T105 l0 a1).f0.f3.f1), .int .i64 ((rd_T105 l0 a1).f0.f4.f0), .int .i64 ((rd_T105 l0 a1).f0.f4.f1), .int .i64 ((rd_T105 l0 a1).f0.f5), .int .i64 ((rd_T105 l0 a1).f0.f6), .int .i64 ((rd_T105 l0 a1).f1.f0.f0), .int .i64 ((rd_T105 l0 a1).f1.f0.f1), .int .i64 ((rd_T105 l0 a1).f1.f1), .slice (some ad244) ((rd_T105 l0 a1).f2).length c238_13] 105 (0, 0)) (bk_ BK239)) : gb249 ≠ gb239)); replace BK239 := bkb_ BK239 hb; clear hb hbox hg; have hnb29 := NB249_239.out; have hnc29 := NB239_249.out; have hcz30 := blk_cell BK249.out; have hfz30 := blk_frozen BK249.out) | ((with_reducible refine gate_builtin (b := .append) (xs := #[.tmp 52, .tmp 54]) rfl ?_); at_builtin; refine Kd.R_append k29 (w0 := w) w.heap.size rfl (.tmp 52) (.tmp 54) 79 29 (.agg #[(.int .i64 0), (.int .i64 0), (.int .i64 0)]) 24 rfl Try.underlying79 info29 rfl (by decide) (by omega) u6 x6_2 (⟨(⟨t245, t246⟩ : S27), t247⟩ : S29) [.int .i64 t245, .int .i64 t246, .int .i64 t247] (fun k_ => k_ ≠ gb249) (fun _ => False) rfl (by first | (go_simp; done) | (go_simp; rfl)) ?aP (fun _ hk => hk.elim) ?aF ?aO ?aB ?aS ?aL ?_; (case aP => exact k29_mkM _ _ _ (⟨(⟨t245, t246⟩ : S27), t247⟩ : S29)); (case aB => exact bl_); (case aF => exact (fun k_ hk => Kd.freshB (g := gb249) (o := .cells #[.int .i64 t245, .int .i64 t246, .int .i64 t247] 29 (0, 0)) (bk_ BK249) k_ hk)); (case aO => exact (by (with_reducible repeat (first | apply Kd.R_alloc | apply Kd.R_drewN | apply Kd.R_drew)); exact Kd.R_mono (Kd.R_far (p := ⟨gb249, 2, none⟩) (Kd.R_far (p := ⟨gb249, 1, none⟩) (Kd.R_far (p := ⟨gb249, 0, none⟩) (Kd.R_mono HO_6.out (fun k_ hk => (⟨hk, hk.2⟩ : _ ∧ k_ ≠ gb249))) (fun _ hk => hk.2) (.int .i64 t245)) (fun _ hk => hk.2) (.int .i64 t246)) (fun _ hk => hk.2) (.int .i64 t247)) (fun _ hk => hk.1.2))); (case aS => exact bls_); (case aL => have := LMc26.out; omega); intro v251 w31 ho hb hg hat; rw [← Ny250.out] at ho; replace BK239 := Aside0.mk (blk_grown (g := gb239) (o := .cells #[.int .i64 ((rd_T105 l0 a1).f0.f0), .int .i64 ((rd_T105 l0 a1).f0.f1.f0), .int .i64 ((rd_T105 l0 a1).f0.f1.f1), .int .i64 ((rd_T105 l0 a1).f0.f2), .int .i64 ((rd_T105 l0 a1).f0.f3.f0), .int .i64 ((rd_T105 l0 a1).f0.f3.f1), .int .i64 ((rd_T105 l0 a1).f0.f4.f0), .int .i64 ((rd_T105 l0 a1).f0.f4.f1), .int .i64 ((rd_T105 l0 a1).f0.f5), .int .i64 ((rd_T105 l0 a1).f0.f6), .int .i64 ((rd_T105 l0 a1).f1.f0.f0), .int .i64 ((rd_T105 l0 a1).f1.f0.f1), .int .i64 ((rd_T105 l0 a1).f1.f1), .slice (some ad244) ((rd_T105 l0 a1).f2).length c238_13] 105 (0, 0)) (bk_ BK239) hg (Kd.R_ne HO_6.out BK239.out (by decide))); replace BK249 := Aside0.mk (blk_grown (g := gb249) (o := .cells #[.int .i64 t245, .int .i64 t246, .int .i64 t247] 29 (0, 0)) (bk_ BK249) hg (Kd.R_away HO_6.out (fun _ hk => hk.2))); replace HB := Aside0.mk (hb); have HO252 := Aside0.mk (ho); clear HO_6; clear ho hb hg hat))
              repeat (go_quiet (first | (go_at_call 146; (with_reducible refine (impl_shown.calls _ _ l0 a1 (rd ((rd_T105 l0 a1).f2) x39_2) t245 t246 t247 true _ ?side1 ?side2 A24.out).mono ?_); (case side1 => repeat (first | exact (Kd.C_below HR0.out HB.out) | (with_reducible refine Kd.C_alloc ?_ _) | (with_reducible refine Kd.C_drewN ?_ _) | (with_reducible refine Kd.C_drew ?_))); (case side2 => exact HC0.out); rintro e w27 ⟨rfl, hb⟩; replace HO_6 := Aside0.mk (Kd.R_below (by (with_reducible repeat (first | apply Kd.R_alloc | apply Kd.R_drewN | apply Kd.R_drew)); exact HO_6.out) hb); replace BK239 := bkb_ BK239 hb; replace HB := hbs_ hb; clear hb) | ((with_reducible refine gate_dst (N := 9) rfl ?_); refine box_event ?hg (N := 9) ?hd (cs := #[.int .i64 0, .int .i64 0, .int .i64 0]) (t := 29) ?hr ?_; (case hd => rfl); (case hg => rfl); (case hr => first | (go_simp; done) | (go_simp; rfl)); intro gb249 hg w28 hbox hb; replace HO_6 := Aside0.mk (Kd.R_below (Kd.R_elderB (by (with_reducible repeat (first | apply Kd.R_alloc | apply Kd.R_drewN | apply Kd.R_drew)); exact HO_6.out) gb249 (Nat.le_of_eq hg.symm)) hb); have BK249 := Aside0.mk (hbox); have GW249 := gs_ hg; have GE249 := gs_ hg; replace HB := hbs_ hb; have NB239_249 := Aside0.mk ((by rw [hg]; exact Nat.ne_of_lt (blk_lt (g := gb239) (o := .cells #[.int .i64 ((rd_T105 l0 a1).f0.f0), .int .i64 ((rd_T105 l0 a1).f0.f1.f0), .int .i64 ((rd_T105 l0 a1).f0.f1.f1), .int .i64 ((rd_T105 l0 a1).f0.f2), .int .i64 ((rd_T105 l0 a1).f0.f3.f0), .int .i64 ((rd_T105 l0 a1).f0.f3.f1), .int .i64 ((rd_T105 l0 a1).f0.f4.f0), .int .i64 ((rd_T105 l0 a1).f0.f4.f1), .int .i64 ((rd_T105 l0 a1).f0.f5), .int .i64 ((rd_T105 l0 a1).f0.f6), .int .i64 ((rd_T105 l0 a1).f1.f0.f0), .int .i64 ((rd_T105 l0 a1).f1.f0.f1), .int .i64 ((rd_T105 l0 a1).f1.f1), .slice (some ad244) ((rd_T105 l0 a1).f2).length c238_13] 105 (0, 0)) (bk_ BK239)) : gb239 ≠ gb249)); have NB249_239 := Aside0.mk ((by rw [hg]; exact Nat.ne_of_gt (blk_lt (g := gb239) (o := .cells #[.int .i64 ((rd_T105 l0 a1).f0.f0), .int .i64 ((rd_T105 l0 a1).f0.f1.f0), .int .i64 ((rd_T105 l0 a1).f0.f1.f1), .int .i64 ((rd_T105 l0 a1).f0.f2), .int .i64 ((rd_T105 l0 a1).f0.f3.f0), .int .i64 ((rd_T105 l0 a1).f0.f3.f1), .int .i64 ((rd_T105 l0 a1).f0.f4.f0), .int .i64 ((rd_T105 l0 a1).f0.f4.f1), .int .i64 ((rd_T105 l0 a1).f0.f5), .int .i64 ((rd_T105 l0 a1).f0.f6), .int .i64 ((rd_T105 l0 a1).f1.f0.f0), .int .i64 ((rd_T105 l0 a1).f1.f0.f1), .int .i64 ((rd_T105 l0 a1).f1.f1), .slice (some ad244) ((rd_T105 l0 a1).f2).length c238_13] 105 (0, 0)) (bk_ BK239)) : gb249 ≠ gb239)); replace BK239 := bkb_ BK239 hb; clear hb hbox hg; have hnb29 := NB249_239.out; have hnc29 := NB239_249.out; have hcz30 := blk_cell BK249.out; have hfz30 := blk_frozen BK249.out) | ((with_reducible refine gate_builtin (b := .append) (xs := #[.tmp 52, .tmp 54]) rfl ?_); at_builtin; refine Kd.R_append k29 (w0 := w) w.heap.size rfl (.tmp 52) (.tmp 54) 79 29 (.agg #[(.int .i64 0), (.int .i64 0), (.int .i64 0)]) 24 rfl Try.underlying79 info29 rfl (by decide) (by omega) u6 x6_2 (⟨(⟨t245, t246⟩ : S27), t247⟩ : S29) [.int .i64 t245, .int .i64 t246, .int .i64 t247] (fun k_ => k_ ≠ gb249) (fun _ => False) rfl (by first | (go_simp; done) | (go_simp; rfl)) ?aP (fun _ hk => hk.elim) ?aF ?aO ?aB ?aS ?aL ?_; (case aP => exact k29_mkM _ _ _ (⟨(⟨t245, t246⟩ : S27), t247⟩ : S29)); (case aB => exact bl_); (case aF => exact (fun k_ hk => Kd.freshB (g := gb249) (o := .cells #[.int .i64 t245, .int .i64 t246, .int .i64 t247] 29 (0, 0)) (bk_ BK249) k_ hk)); (case aO => exact (by (with_reducible repeat (first | apply Kd.R_alloc | apply Kd.R_drewN | apply Kd.R_drew)); exact Kd.R_mono (Kd.R_far (p := ⟨gb249, 2, none⟩) (Kd.R_far (p := ⟨gb249, 1, none⟩) (Kd.R_far (p := ⟨gb249, 0, none⟩) (Kd.R_mono HO_6.out (fun k_ hk => (⟨hk, hk.2⟩ : _ ∧ k_ ≠ gb249))) (fun _ hk => hk.2) (.int .i64 t245)) (fun _ hk => hk.2) (.int .i64 t246)) (fun _ hk => hk.2) (.int .i64 t247)) (fun _ hk => hk.1.2))); (case aS => exact bls_); (case aL => have := LMc26.out; omega); intro v251 w31 ho hb hg hat; rw [← Ny250.out] at ho; replace BK239 := Aside0.mk (blk_grown (g := gb239) (o := .cells #[.int .i64 ((rd_T105 l0 a1).f0.f0), .int .i64 ((rd_T105 l0 a1).f0.f1.f0), .int .i64 ((rd_T105 l0 a1).f0.f1.f1), .int .i64 ((rd_T105 l0 a1).f0.f2), .int .i64 ((rd_T105 l0 a1).f0.f3.f0), .int .i64 ((rd_T105 l0 a1).f0.f3.f1), .int .i64 ((rd_T105 l0 a1).f0.f4.f0), .int .i64 ((rd_T105 l0 a1).f0.f4.f1), .int .i64 ((rd_T105 l0 a1).f0.f5), .int .i64 ((rd_T105 l0 a1).f0.f6), .int .i64 ((rd_T105 l0 a1).f1.f0.f0), .int .i64 ((rd_T105 l0 a1).f1.f0.f1), .int .i64 ((rd_T105 l0 a1).f1.f1), .slice (some ad244) ((rd_T105 l0 a1).f2).length c238_13] 105 (0, 0)) (bk_ BK239) hg (Kd.R_ne HO_6.out BK239.out (by decide))); replace BK249 := Aside0.mk (blk_grown (g := gb249) (o := .cells #[.int .i64 t245, .int .i64 t246, .int .i64 t247] 29 (0, 0)) (bk_ BK249) hg (Kd.R_away HO_6.out (fun _ hk => hk.2))); replace HB := Aside0.mk (hb); have HO252 := Aside0.mk (ho); clear HO_6; clear ho hb hg hat)); try go_wp2_with (first | (go_at_call 146; (with_reducible refine (impl_shown.calls _ _ l0 a1 (rd ((rd_T105 l0 a1).f2) x39_2) t245 t246 t247 true _ ?side1 ?side2 A24.out).mono ?_); (case side1 => repeat (first | exact (Kd.C_below HR0.out HB.out) | (with_reducible refine Kd.C_alloc ?_ _) | (with_reducible refine Kd.C_drewN ?_ _) | (with_reducible refine Kd.C_drew ?_))); (case side2 => exact HC0.out); rintro e w27 ⟨rfl, hb⟩; replace HO_6 := Aside0.mk (Kd.R_below (by (with_reducible repeat (first | apply Kd.R_alloc | apply Kd.R_drewN | apply Kd.R_drew)); exact HO_6.out) hb); replace BK239 := bkb_ BK239 hb; replace HB := hbs_ hb; clear hb) | ((with_reducible refine gate_dst (N := 9) rfl ?_); refine box_event ?hg (N := 9) ?hd (cs := #[.int .i64 0, .int .i64 0, .int .i64 0]) (t := 29) ?hr ?_; (case hd => rfl); (case hg => rfl); (case hr => first | (go_simp; done) | (go_simp; rfl)); intro gb249 hg w28 hbox hb; replace HO_6 := Aside0.mk (Kd.R_below (Kd.R_elderB (by (with_reducible repeat (first | apply Kd.R_alloc | apply Kd.R_drewN | apply Kd.R_drew)); exact HO_6.out) gb249 (Nat.le_of_eq hg.symm)) hb); have BK249 := Aside0.mk (hbox); have GW249 := gs_ hg; have GE249 := gs_ hg; replace HB := hbs_ hb; have NB239_249 := Aside0.mk ((by rw [hg]; exact Nat.ne_of_lt (blk_lt (g := gb239) (o := .cells #[.int .i64 ((rd_T105 l0 a1).f0.f0), .int .i64 ((rd_T105 l0 a1).f0.f1.f0), .int .i64 ((rd_T105 l0 a1).f0.f1.f1), .int .i64 ((rd_T105 l0 a1).f0.f2), .int .i64 ((rd_T105 l0 a1).f0.f3.f0), .int .i64 ((rd_T105 l0 a1).f0.f3.f1), .int .i64 ((rd_T105 l0 a1).f0.f4.f0), .int .i64 ((rd_T105 l0 a1).f0.f4.f1), .int .i64 ((rd_T105 l0 a1).f0.f5), .int .i64 ((rd_T105 l0 a1).f0.f6), .int .i64 ((rd_T105 l0 a1).f1.f0.f0), .int .i64 ((rd_T105 l0 a1).f1.f0.f1), .int .i64 ((rd_T105 l0 a1).f1.f1), .slice (some ad244) ((rd_T105 l0 a1).f2).length c238_13] 105 (0, 0)) (bk_ BK239)) : gb239 ≠ gb249)); have NB249_239 := Aside0.mk ((by rw [hg]; exact Nat.ne_of_gt (blk_lt (g := gb239) (o := .cells #[.int .i64 ((rd_T105 l0 a1).f0.f0), .int .i64 ((rd_T105 l0 a1).f0.f1.f0), .int .i64 ((rd_T105 l0 a1).f0.f1.f1), .int .i64 ((rd_T105 l0 a1).f0.f2), .int .i64 ((rd_T105 l0 a1).f0.f3.f0), .int .i64 ((rd_T105 l0 a1).f0.f3.f1), .int .i64 ((rd_T105 l0 a1).f0.f4.f0), .int .i64 ((rd_T105 l0 a1).f0.f4.f1), .int .i64 ((rd_T105 l0 a1).f0.f5), .int .i64 ((rd_T105 l0 a1).f0.f6), .int .i64 ((rd_T105 l0 a1).f1.f0.f0), .int .i64 ((rd_T105 l0 a1).f1.f0.f1), .int .i64 ((rd_T105 l0 a1).f1.f1), .slice (some ad244) ((rd_T105 l0 a1).f2).length c238_13] 105 (0, 0)) (bk_ BK239)) : gb249 ≠ gb239)); replace BK239 := bkb_ BK239 hb; clear hb hbox hg; have hnb29 := NB249_239.out; have hnc29 := NB239_249.out; have hcz30 := blk_cell BK249.out; have hfz30 := blk_frozen BK249.out) | ((with_reducible refine gate_builtin (b := .append) (xs := #[.tmp 52, .tmp 54]) rfl ?_); at_builtin; refine Kd.R_append k29 (w0 := w) w.heap.size rfl (.tmp 52) (.tmp 54) 79 29 (.agg #[(.int .i64 0), (.int .i64 0), (.int .i64 0)]) 24 rfl Try.underlying79 info29 rfl (by decide) (by omega) u6 x6_2 (⟨(⟨t245, t246⟩ : S27), t247⟩ : S29) [.int .i64 t245, .int .i64 t246, .int .i64 t247] (fun k_ => k_ ≠ gb249) (fun _ => False) rfl (by first | (go_simp; done) | (go_simp; rfl)) ?aP (fun _ hk => hk.elim) ?aF ?aO ?aB ?aS ?aL ?_; (case aP => exact k29_mkM _ _ _ (⟨(⟨t245, t246⟩ : S27), t247⟩ : S29)); (case aB => exact bl_); (case aF => exact (fun k_ hk => Kd.freshB (g := gb249) (o := .cells #[.int .i64 t245, .int .i64 t246, .int .i64 t247] 29 (0, 0)) (bk_ BK249) k_ hk)); (case aO => exact (by (with_reducible repeat (first | apply Kd.R_alloc | apply Kd.R_drewN | apply Kd.R_drew)); exact Kd.R_mono (Kd.R_far (p := ⟨gb249, 2, none⟩) (Kd.R_far (p := ⟨gb249, 1, none⟩) (Kd.R_far (p := ⟨gb249, 0, none⟩) (Kd.R_mono HO_6.out (fun k_ hk => (⟨hk, hk.2⟩ : _ ∧ k_ ≠ gb249))) (fun _ hk => hk.2) (.int .i64 t245)) (fun _ hk => hk.2) (.int .i64 t246)) (fun _ hk => hk.2) (.int .i64 t247)) (fun _ hk => hk.1.2))); (case aS => exact bls_); (case aL => have := LMc26.out; omega); intro v251 w31 ho hb hg hat; rw [← Ny250.out] at ho; replace BK239 := Aside0.mk (blk_grown (g := gb239) (o := .cells #[.int .i64 ((rd_T105 l0 a1).f0.f0), .int .i64 ((rd_T105 l0 a1).f0.f1.f0), .int .i64 ((rd_T105 l0 a1).f0.f1.f1), .int .i64 ((rd_T105 l0 a1).f0.f2), .int .i64 ((rd_T105 l0 a1).f0.f3.f0), .int .i64 ((rd_T105 l0 a1).f0.f3.f1), .int .i64 ((rd_T105 l0 a1).f0.f4.f0), .int .i64 ((rd_T105 l0 a1).f0.f4.f1), .int .i64 ((rd_T105 l0 a1).f0.f5), .int .i64 ((rd_T105 l0 a1).f0.f6), .int .i64 ((rd_T105 l0 a1).f1.f0.f0), .int .i64 ((rd_T105 l0 a1).f1.f0.f1), .int .i64 ((rd_T105 l0 a1).f1.f1), .slice (some ad244) ((rd_T105 l0 a1).f2).length c238_13] 105 (0, 0)) (bk_ BK239) hg (Kd.R_ne HO_6.out BK239.out (by decide))); replace BK249 := Aside0.mk (blk_grown (g := gb249) (o := .cells #[.int .i64 t245, .int .i64 t246, .int .i64 t247] 29 (0, 0)) (bk_ BK249) hg (Kd.R_away HO_6.out (fun _ hk => hk.2))); replace HB := Aside0.mk (hb); have HO252 := Aside0.mk (ho); clear HO_6; clear ho hb hg hat)))
              go_roundg k2
              case measure => have := HJ6.out; have := HK2.out; omega
              case rel => exact ⟨(y250), (wrap64 (x39_2 + 1)), (by first | rfl | (simp; done) | (simp [*]; done)), H', ⟨by have := HJ6.out; have := HK2.out; omega⟩, ⟨by (with_reducible repeat (first | apply Kd.R_alloc | apply Kd.R_drewN | apply Kd.R_drew)); exact Kd.R_mono HO252.out (fun _ hk => trivial)⟩, ⟨bk_ BK239⟩, ⟨bl_⟩⟩
             ·rw [if_neg c26] at H
              exact absurd H (by simp)
            ·replace c25 := Bool.eq_false_iff.mpr c25
             subst c25
             replace H := ite_f_ H
             obtain rfl := Option.some.inj H
             have p244 : 0 ≤ (x39_2 : Int) := of_decide_eq_true (by first | (with_reducible assumption) | assumption)
             have q244 : x39_2 < (((rd_T105 l0 a1).f2).length : Int) := of_decide_eq_true (by first | (with_reducible assumption) | assumption)
             obtain ⟨ad244, e244, hx244_0⟩ := Kd.at_int (Kd.C_below HR238_13.out HB.out) x39_2 p244 q244
             cases e244
             replace p244 := eq_true p244
             replace q244 := eq_true q244
             go_wp2_with (first | (go_at_call 146; (with_reducible refine (impl_shown.calls _ _ l0 a1 (rd ((rd_T105 l0 a1).f2) x39_2) t245 t246 t247 false _ ?side1 ?side2 A24.out).mono ?_); (case side1 => repeat (first | exact (Kd.C_below HR0.out HB.out) | (with_reducible refine Kd.C_alloc ?_ _) | (with_reducible refine Kd.C_drewN ?_ _) | (with_reducible refine Kd.C_drew ?_))); (case side2 => exact HC0.out); rintro e w32 ⟨rfl, hb⟩; replace HO_6 := Aside0.mk (Kd.R_below (by (with_reducible repeat (first | apply Kd.R_alloc | apply Kd.R_drewN | apply Kd.R_drew)); exact HO_6.out) hb); replace BK239 := bkb_ BK239 hb; replace HB := hbs_ hb; clear hb) | ((with_reducible refine gate_dst (N := 9) rfl ?_); refine box_event ?hg (N := 9) ?hd (cs := #[.int .i64 0, .int .i64 0, .int .i64 0]) (t := 29) ?hr ?_; (case hd => rfl); (case hg => rfl); (case hr => first | (go_simp; done) | (go_simp; rfl)); intro gb249 hg w33 hbox hb; replace HO_6 := Aside0.mk (Kd.R_below (Kd.R_elderB (by (with_reducible repeat (first | apply Kd.R_alloc | apply Kd.R_drewN | apply Kd.R_drew)); exact HO_6.out) gb249 (Nat.le_of_eq hg.symm)) hb); have BK249 := Aside0.mk (hbox); have GW249 := gs_ hg; have GE249 := gs_ hg; replace HB := hbs_ hb; have NB239_249 := Aside0.mk ((by rw [hg]; exact Nat.ne_of_lt (blk_lt (g := gb239) (o := .cells #[.int .i64 ((rd_T105 l0 a1).f0.f0), .int .i64 ((rd_T105 l0 a1).f0.f1.f0), .int .i64 ((rd_T105 l0 a1).f0.f1.f1), .int .i64 ((rd_T105 l0 a1).f0.f2), .int .i64 ((rd_T105 l0 a1).f0.f3.f0), .int .i64 ((rd_T105 l0 a1).f0.f3.f1), .int .i64 ((rd_T105 l0 a1).f0.f4.f0), .int .i64 ((rd_T105 l0 a1).f0.f4.f1), .int .i64 ((rd_T105 l0 a1).f0.f5), .int .i64 ((rd_T105 l0 a1).f0.f6), .int .i64 ((rd_T105 l0 a1).f1.f0.f0), .int .i64 ((rd_T105 l0 a1).f1.f0.f1), .int .i64 ((rd_T105 l0 a1).f1.f1), .slice (some ad244) ((rd_T105 l0 a1).f2).length c238_13] 105 (0, 0)) (bk_ BK239)) : gb239 ≠ gb249)); have NB249_239 := Aside0.mk ((by rw [hg]; exact Nat.ne_of_gt (blk_lt (g := gb239) (o := .cells #[.int .i64 ((rd_T105 l0 a1).f0.f0), .int .i64 ((rd_T105 l0 a1).f0.f1.f0), .int .i64 ((rd_T105 l0 a1).f0.f1.f1), .int .i64 ((rd_T105 l0 a1).f0.f2), .int .i64 ((rd_T105 l0 a1).f0.f3.f0), .int .i64 ((rd_T105 l0 a1).f0.f3.f1), .int .i64 ((rd_T105 l0 a1).f0.f4.f0), .int .i64 ((rd_T105 l0 a1).f0.f4.f1), .int .i64 ((rd_T105 l0 a1).f0.f5), .int .i64 ((rd_T105 l0 a1).f0.f6), .int .i64 ((rd_T105 l0 a1).f1.f0.f0), .int .i64 ((rd_T105 l0 a1).f1.f0.f1), .int .i64 ((rd_T105 l0 a1).f1.f1), .slice (some ad244) ((rd_T105 l0 a1).f2).length c238_13] 105 (0, 0)) (bk_ BK239)) : gb249 ≠ gb239)); replace BK239 := bkb_ BK239 hb; clear hb hbox hg; have hnb34 := NB249_239.out; have hnc34 := NB239_249.out; have hcz35 := blk_cell BK249.out; have hfz35 := blk_frozen BK249.out))
             repeat (go_quiet (first | (go_at_call 146; (with_reducible refine (impl_shown.calls _ _ l0 a1 (rd ((rd_T105 l0 a1).f2) x39_2) t245 t246 t247 false _ ?side1 ?side2 A24.out).mono ?_); (case side1 => repeat (first | exact (Kd.C_below HR0.out HB.out) | (with_reducible refine Kd.C_alloc ?_ _) | (with_reducible refine Kd.C_drewN ?_ _) | (with_reducible refine Kd.C_drew ?_))); (case side2 => exact HC0.out); rintro e w32 ⟨rfl, hb⟩; replace HO_6 := Aside0.mk (Kd.R_below (by (with_reducible repeat (first | apply Kd.R_alloc | apply Kd.R_drewN | apply Kd.R_drew)); exact HO_6.out) hb); replace BK239 := bkb_ BK239 hb; replace HB := hbs_ hb; clear hb) | ((with_reducible refine gate_dst (N := 9) rfl ?_); refine box_event ?hg (N := 9) ?hd (cs := #[.int .i64 0, .int .i64 0, .int .i64 0]) (t := 29) ?hr ?_; (case hd => rfl); (case hg => rfl); (case hr => first | (go_simp; done) | (go_simp; rfl)); intro gb249 hg w33 hbox hb; replace HO_6 := Aside0.mk (Kd.R_below (Kd.R_elderB (by (with_reducible repeat (first | apply Kd.R_alloc | apply Kd.R_drewN | apply Kd.R_drew)); exact HO_6.out) gb249 (Nat.le_of_eq hg.symm)) hb); have BK249 := Aside0.mk (hbox); have GW249 := gs_ hg; have GE249 := gs_ hg; replace HB := hbs_ hb; have NB239_249 := Aside0.mk ((by rw [hg]; exact Nat.ne_of_lt (blk_lt (g := gb239) (o := .cells #[.int .i64 ((rd_T105 l0 a1).f0.f0), .int .i64 ((rd_T105 l0 a1).f0.f1.f0), .int .i64 ((rd_T105 l0 a1).f0.f1.f1), .int .i64 ((rd_T105 l0 a1).f0.f2), .int .i64 ((rd_T105 l0 a1).f0.f3.f0), .int .i64 ((rd_T105 l0 a1).f0.f3.f1), .int .i64 ((rd_T105 l0 a1).f0.f4.f0), .int .i64 ((rd_T105 l0 a1).f0.f4.f1), .int .i64 ((rd_T105 l0 a1).f0.f5), .int .i64 ((rd_T105 l0 a1).f0.f6), .int .i64 ((rd_T105 l0 a1).f1.f0.f0), .int .i64 ((rd_T105 l0 a1).f1.f0.f1), .int .i64 ((rd_T105 l0 a1).f1.f1), .slice (some ad244) ((rd_T105 l0 a1).f2).length c238_13] 105 (0, 0)) (bk_ BK239)) : gb239 ≠ gb249)); have NB249_239 := Aside0.mk ((by rw [hg]; exact Nat.ne_of_gt (blk_lt (g := gb239) (o := .cells #[.int .i64 ((rd_T105 l0 a1).f0.f0), .int .i64 ((rd_T105 l0 a1).f0.f1.f0), .int .i64 ((rd_T105 l0 a1).f0.f1.f1), .int .i64 ((rd_T105 l0 a1).f0.f2), .int .i64 ((rd_T105 l0 a1).f0.f3.f0), .int .i64 ((rd_T105 l0 a1).f0.f3.f1), .int .i64 ((rd_T105 l0 a1).f0.f4.f0), .int .i64 ((rd_T105 l0 a1).f0.f4.f1), .int .i64 ((rd_T105 l0 a1).f0.f5), .int .i64 ((rd_T105 l0 a1).f0.f6), .int .i64 ((rd_T105 l0 a1).f1.f0.f0), .int .i64 ((rd_T105 l0 a1).f1.f0.f1), .int .i64 ((rd_T105 l0 a1).f1.f1), .slice (some ad244) ((rd_T105 l0 a1).f2).length c238_13] 105 (0, 0)) (bk_ BK239)) : gb249 ≠ gb239)); replace BK239 := bkb_ BK239 hb; clear hb hbox hg; have hnb34 := NB249_239.out; have hnc34 := NB239_249.out; have hcz35 := blk_cell BK249.out; have hfz35 := blk_frozen BK249.out)); try go_wp2_with (first | (go_at_call 146; (with_reducible refine (impl_shown.calls _ _ l0 a1 (rd ((rd_T105 l0 a1).f2) x39_2) t245 t246 t247 false _ ?side1 ?side2 A24.out).mono ?_); (case side1 => repeat (first | exact (Kd.C_below HR0.out HB.out) | (with_reducible refine Kd.C_alloc ?_ _) | (with_reducible refine Kd.C_drewN ?_ _) | (with_reducible refine Kd.C_drew ?_))); (case side2 => exact HC0.out); rintro e w32 ⟨rfl, hb⟩; replace HO_6 := Aside0.mk (Kd.R_below (by (with_reducible repeat (first | apply Kd.R_alloc | apply Kd.R_drewN | apply Kd.R_drew)); exact HO_6.out) hb); replace BK239 := bkb_ BK239 hb; replace HB := hbs_ hb; clear hb) | ((with_reducible refine gate_dst (N := 9) rfl ?_); refine box_event ?hg (N := 9) ?hd (cs := #[.int .i64 0, .int .i64 0, .int .i64 0]) (t := 29) ?hr ?_; (case hd => rfl); (case hg => rfl); (case hr => first | (go_simp; done) | (go_simp; rfl)); intro gb249 hg w33 hbox hb; replace HO_6 := Aside0.mk (Kd.R_below (Kd.R_elderB (by (with_reducible repeat (first | apply Kd.R_alloc | apply Kd.R_drewN | apply Kd.R_drew)); exact HO_6.out) gb249 (Nat.le_of_eq hg.symm)) hb); have BK249 := Aside0.mk (hbox); have GW249 := gs_ hg; have GE249 := gs_ hg; replace HB := hbs_ hb; have NB239_249 := Aside0.mk ((by rw [hg]; exact Nat.ne_of_lt (blk_lt (g := gb239) (o := .cells #[.int .i64 ((rd_T105 l0 a1).f0.f0), .int .i64 ((rd_T105 l0 a1).f0.f1.f0), .int .i64 ((rd_T105 l0 a1).f0.f1.f1), .int .i64 ((rd_T105 l0 a1).f0.f2), .int .i64 ((rd_T105 l0 a1).f0.f3.f0), .int .i64 ((rd_T105 l0 a1).f0.f3.f1), .int .i64 ((rd_T105 l0 a1).f0.f4.f0), .int .i64 ((rd_T105 l0 a1).f0.f4.f1), .int .i64 ((rd_T105 l0 a1).f0.f5), .int .i64 ((rd_T105 l0 a1).f0.f6), .int .i64 ((rd_T105 l0 a1).f1.f0.f0), .int .i64 ((rd_T105 l0 a1).f1.f0.f1), .int .i64 ((rd_T105 l0 a1).f1.f1), .slice (some ad244) ((rd_T105 l0 a1).f2).length c238_13] 105 (0, 0)) (bk_ BK239)) : gb239 ≠ gb249)); have NB249_239 := Aside0.mk ((by rw [hg]; exact Nat.ne_of_gt (blk_lt (g := gb239) (o := .cells #[.int .i64 ((rd_T105 l0 a1).f0.f0), .int .i64 ((rd_T105 l0 a1).f0.f1.f0), .int .i64 ((rd_T105 l0 a1).f0.f1.f1), .int .i64 ((rd_T105 l0 a1).f0.f2), .int .i64 ((rd_T105 l0 a1).f0.f3.f0), .int .i64 ((rd_T105 l0 a1).f0.f3.f1), .int .i64 ((rd_T105 l0 a1).f0.f4.f0), .int .i64 ((rd_T105 l0 a1).f0.f4.f1), .int .i64 ((rd_T105 l0 a1).f0.f5), .int .i64 ((rd_T105 l0 a1).f0.f6), .int .i64 ((rd_T105 l0 a1).f1.f0.f0), .int .i64 ((rd_T105 l0 a1).f1.f0.f1), .int .i64 ((rd_T105 l0 a1).f1.f1), .slice (some ad244) ((rd_T105 l0 a1).f2).length c238_13] 105 (0, 0)) (bk_ BK239)) : gb249 ≠ gb239)); replace BK239 := bkb_ BK239 hb; clear hb hbox hg; have hnb34 := NB249_239.out; have hnc34 := NB239_249.out; have hcz35 := blk_cell BK249.out; have hfz35 := blk_frozen BK249.out)))
             go_ret
             exact ⟨eq_, bl_⟩
           ·rw [if_neg c23] at H
            exact absurd H (by simp)
          ·rw [if_neg c22] at H
           exact absurd H (by simp)
         ·rw [if_neg c21] at H
          have c21b0 : decide (x39_2 < (((rd_T105 l0 a1).f2).length : Int)) = false := decide_eq_false c21
          clear c21
          by_cases c36 : ((rd_T105 l0 a1).f0.f0) = 1
          ·rw [if_pos c36] at H
           have c36b0 : (((rd_T105 l0 a1).f0.f0) == 1) = true := beq_iff_eq.mpr c36
           have c36b1 : (((rd_T105 l0 a1).f0.f0) != 1) = false := bne_eq_false_iff_eq.mpr c36
           clear c36
           by_cases c37 : (x6_2.length : Int) = 0
           ·rw [if_pos c37] at H
            have c37b0 : ((x6_2.length : Int) == 0) = true := beq_iff_eq.mpr c37
            have c37b1 : ((x6_2.length : Int) != 0) = false := bne_eq_false_iff_eq.mpr c37
            clear c37
            obtain rfl := Option.some.inj H
            have hcz38 := blk_cell BK239.out
            have hfz38 := blk_frozen BK239.out
            obtain ⟨Ao39, co39, eo39⟩ := Kd.R_slice HO_6.out
            subst eo39
            go_wp2
            repeat (go_quiet (fail); try go_wp2)
            go_ret
            exact ⟨eq_, bl_⟩
           ·rw [if_neg c37] at H
            have c37b0 : ((x6_2.length : Int) == 0) = false := beq_eq_false_iff_ne.mpr c37
            have c37b1 : ((x6_2.length : Int) != 0) = true := bne_iff_ne.mpr c37
            have c37b2 : ¬ (x6_2 = []) := fun h_ => c37 (by rw [h_]; rfl)
            obtain rfl := Option.some.inj H
            have hcz40 := blk_cell BK239.out
            have hfz40 := blk_frozen BK239.out
            obtain ⟨Ao41, co41, eo41⟩ := Kd.R_slice HO_6.out
            subst eo41
            go_wp2
            repeat (go_quiet (fail); try go_wp2)
            go_ret
            exact ⟨eq_, bl_⟩
          ·rw [if_neg c36] at H
           have c36b0 : (((rd_T105 l0 a1).f0.f0) == 1) = false := beq_eq_false_iff_ne.mpr c36
           have c36b1 : (((rd_T105 l0 a1).f0.f0) != 1) = true := bne_iff_ne.mpr c36
           by_cases c42 : ((rd_T105 l0 a1).f0.f0) = 2
           ·rw [if_pos c42] at H
            have c42b0 : (((rd_T105 l0 a1).f0.f0) == 2) = true := beq_iff_eq.mpr c42
            have c42b1 : (((rd_T105 l0 a1).f0.f0) != 2) = false := bne_eq_false_iff_eq.mpr c42
            clear c42
            by_cases c43 : (x6_2.length : Int) = 1
            ·rw [if_pos c43] at H
             have c43b0 : ((x6_2.length : Int) == 1) = true := beq_iff_eq.mpr c43
             have c43b1 : ((x6_2.length : Int) != 1) = false := bne_eq_false_iff_eq.mpr c43
             clear c43
             by_cases c44 : 0 < (x6_2.length : Int)
             ·rw [if_pos c44] at H
              have c44b0 : decide (0 < (x6_2.length : Int)) = true := decide_eq_true c44
              have c44b1 : decide (0 < x6_2.length) = true := decide_eq_true (by omega)
              clear c44
              obtain rfl := Option.some.inj H
              have hcz45 := blk_cell BK239.out
              have hfz45 := blk_frozen BK239.out
              obtain ⟨Ao46, co46, eo46⟩ := Kd.R_slice HO_6.out
              subst eo46
              have p253 : 0 ≤ (0 : Int) := (by omega)
              have q253 : 0 < (x6_2.length : Int) := of_decide_eq_true (by first | (with_reducible assumption) | assumption)
              obtain ⟨ad253, e253, hx253_0, hx253_1, hx253_2⟩ := at_T29 (Kd.R_reads' HO_6.out).2.2 0 p253 q253
              cases e253
              have qi253 : (0 < x6_2.length) = True := eq_true (by omega)
              (try rw [show ((0 : Int)).toNat = 0 from rfl] at hx253_0)
              (try rw [show 0 * 3 = 0 from rfl] at hx253_0)
              (try rw [Addr.add_zero'] at hx253_0)
              (try rw [show ((0 : Int)).toNat = 0 from rfl] at hx253_1)
              (try rw [show 0 * 3 = 0 from rfl] at hx253_1)
              (try rw [Addr.add_zero'] at hx253_1)
              (try rw [show ((0 : Int)).toNat = 0 from rfl] at hx253_2)
              (try rw [show 0 * 3 = 0 from rfl] at hx253_2)
              (try rw [Addr.add_zero'] at hx253_2)
              replace p253 := eq_true p253
              replace q253 := eq_true q253
              go_wp2
              repeat (go_quiet (fail); try go_wp2)
              go_ret
              exact ⟨eq_, bl_⟩
             ·rw [if_neg c44] at H
              exact absurd H (by simp)
            ·rw [if_neg c43] at H
             have c43b0 : ((x6_2.length : Int) == 1) = false := beq_eq_false_iff_ne.mpr c43
             have c43b1 : ((x6_2.length : Int) != 1) = true := bne_iff_ne.mpr c43
             obtain rfl := Option.some.inj H
             have hcz47 := blk_cell BK239.out
             have hfz47 := blk_frozen BK239.out
             obtain ⟨Ao48, co48, eo48⟩ := Kd.R_slice HO_6.out
             subst eo48
             go_wp2
             repeat (go_quiet (fail); try go_wp2)
             go_ret
             exact ⟨eq_, bl_⟩
           ·rw [if_neg c42] at H
            have c42b0 : (((rd_T105 l0 a1).f0.f0) == 2) = false := beq_eq_false_iff_ne.mpr c42
            have c42b1 : (((rd_T105 l0 a1).f0.f0) != 2) = true := bne_iff_ne.mpr c42
            by_cases c49 : ((rd_T105 l0 a1).f0.f0) = 3
            ·rw [if_pos c49] at H
             have c49b0 : (((rd_T105 l0 a1).f0.f0) == 3) = true := beq_iff_eq.mpr c49
             have c49b1 : (((rd_T105 l0 a1).f0.f0) != 3) = false := bne_eq_false_iff_eq.mpr c49
             clear c49
             by_cases c50 : (x6_2.length : Int) = 2
             ·rw [if_pos c50] at H
              have c50b0 : ((x6_2.length : Int) == 2) = true := beq_iff_eq.mpr c50
              have c50b1 : ((x6_2.length : Int) != 2) = false := bne_eq_false_iff_eq.mpr c50
              clear c50
              by_cases c51 : 0 < (x6_2.length : Int)
              ·rw [if_pos c51] at H
               have c51b0 : decide (0 < (x6_2.length : Int)) = true := decide_eq_true c51
               have c51b1 : decide (0 < x6_2.length) = true := decide_eq_true (by omega)
               clear c51
               by_cases c52 : (((rd_T29 x6_2 0).f0.f0) == ((rd_T105 l0 a1).f0.f3.f0) && (((rd_T29 x6_2 0).f0.f1) == ((rd_T105 l0 a1).f0.f3.f1))) = true
               ·rw [if_pos c52] at H
                have c52b0 : (((rd_T29 x6_2 0).f0.f0) == ((rd_T105 l0 a1).f0.f3.f0) && (((rd_T29 x6_2 0).f0.f1) == ((rd_T105 l0 a1).f0.f3.f1))) = true := c52
                (try (have c52b1 : decide (((rd_T29 x6_2 0).f0.f0) = ((rd_T105 l0 a1).f0.f3.f0) && (((rd_T29 x6_2 0).f0.f1) == ((rd_T105 l0 a1).f0.f3.f1))) = true := by simpa using c52))
                (try (have c52b2 : (((rd_T29 x6_2 0).f0.f0) == ((rd_T105 l0 a1).f0.f3.f0) && (((rd_T29 x6_2 0).f0.f1) == ((rd_T105 l0 a1).f0.f3.f1))) = true := by simpa using c52))
                clear c52
                by_cases c53 : 1 < (x6_2.length : Int)
                ·rw [if_pos c53] at H
                 have c53b0 : decide (1 < (x6_2.length : Int)) = true := decide_eq_true c53
                 have c53b1 : decide (1 < x6_2.length) = true := decide_eq_true (by omega)
                 clear c53
                 obtain rfl := Option.some.inj H
                 have hcz54 := blk_cell BK239.out
                 have hfz54 := blk_frozen BK239.out
                 obtain ⟨Ao55, co55, eo55⟩ := Kd.R_slice HO_6.out
                 subst eo55
                 have p254 : 0 ≤ (0 : Int) := (by omega)
                 have q254 : 0 < (x6_2.length : Int) := of_decide_eq_true (by first | (with_reducible assumption) | assumption)
                 obtain ⟨ad254, e254, hx254_0, hx254_1, hx254_2⟩ := at_T29 (Kd.R_reads' HO_6.out).2.2 0 p254 q254
                 cases e254
                 have qi254 : (0 < x6_2.length) = True := eq_true (by omega)
                 (try rw [show ((0 : Int)).toNat = 0 from rfl] at hx254_0)
                 (try rw [show 0 * 3 = 0 from rfl] at hx254_0)
                 (try rw [Addr.add_zero'] at hx254_0)
                 (try rw [show ((0 : Int)).toNat = 0 from rfl] at hx254_1)
                 (try rw [show 0 * 3 = 0 from rfl] at hx254_1)
                 (try rw [Addr.add_zero'] at hx254_1)
                 (try rw [show ((0 : Int)).toNat = 0 from rfl] at hx254_2)
                 (try rw [show 0 * 3 = 0 from rfl] at hx254_2)
                 (try rw [Addr.add_zero'] at hx254_2)
                 replace p254 := eq_true p254
                 replace q254 := eq_true q254
                 have p255 : 0 ≤ (1 : Int) := (by omega)
                 have q255 : 1 < (x6_2.length : Int) := of_decide_eq_true (by first | (with_reducible assumption) | assumption)
                 obtain ⟨ad255, e255, hx255_0, hx255_1, hx255_2⟩ := at_T29 (Kd.R_reads' HO_6.out).2.2 1 p255 q255
                 obtain rfl : ad254 = ad255 := (by injection e255)
                 (try simp only [show (1 : Int).toNat = 1 from rfl, Nat.reduceMul, Nat.reduceEqDiff, Go.Addr.add, ↓reduceIte] at hx255_0)
                 (try simp only [show (1 : Int).toNat = 1 from rfl, Nat.reduceMul, Nat.reduceEqDiff, Go.Addr.add, ↓reduceIte] at hx255_1)
                 (try simp only [show (1 : Int).toNat = 1 from rfl, Nat.reduceMul, Nat.reduceEqDiff, Go.Addr.add, ↓reduceIte] at hx255_2)
                 have qi255 : (1 < x6_2.length) = True := eq_true (by omega)
                 (try rw [show ((1 : Int)).toNat = 1 from rfl] at hx255_0)
                 (try rw [show 1 * 3 = 3 from rfl] at hx255_0)
                 (try rw [show ((1 : Int)).toNat = 1 from rfl] at hx255_1)
                 (try rw [show 1 * 3 = 3 from rfl] at hx255_1)
                 (try rw [show ((1 : Int)).toNat = 1 from rfl] at hx255_2)
                 (try rw [show 1 * 3 = 3 from rfl] at hx255_2)
                 replace p255 := eq_true p255
                 replace q255 := eq_true q255
                 have p256 : 0 ≤ (0 : Int) := (by omega)
                 have q256 : 0 < (x6_2.length : Int) := of_decide_eq_true (by first | (with_reducible assumption) | assumption)
                 obtain ⟨ad256, e256, hx256_0, hx256_1, hx256_2⟩ := at_T29 (Kd.R_reads' HO_6.out).2.2 0 p256 q256
                 obtain rfl : ad254 = ad256 := (by injection e256)
                 have qi256 : (0 < x6_2.length) = True := eq_true (by omega)
                 (try rw [show ((0 : Int)).toNat = 0 from rfl] at hx256_0)
                 (try rw [show 0 * 3 = 0 from rfl] at hx256_0)
                 (try rw [Addr.add_zero'] at hx256_0)
                 (try rw [show ((0 : Int)).toNat = 0 from rfl] at hx256_1)
                 (try rw [show 0 * 3 = 0 from rfl] at hx256_1)
                 (try rw [Addr.add_zero'] at hx256_1)
                 (try rw [show ((0 : Int)).toNat = 0 from rfl] at hx256_2)
                 (try rw [show 0 * 3 = 0 from rfl] at hx256_2)
                 (try rw [Addr.add_zero'] at hx256_2)
                 replace p256 := eq_true p256
                 replace q256 := eq_true q256
                 go_wp2
                 repeat (go_quiet (fail); try go_wp2)
                 go_ret
                 exact ⟨eq_, bl_⟩
                ·rw [if_neg c53] at H
                 exact absurd H (by simp)
               ·rw [if_neg c52] at H
                have c52b0 : (((rd_T29 x6_2 0).f0.f0) == ((rd_T105 l0 a1).f0.f3.f0) && (((rd_T29 x6_2 0).f0.f1) == ((rd_T105 l0 a1).f0.f3.f1))) = false := by simpa using c52
                (try (have c52b1 : decide (((rd_T29 x6_2 0).f0.f0) = ((rd_T105 l0 a1).f0.f3.f0) && (((rd_T29 x6_2 0).f0.f1) == ((rd_T105 l0 a1).f0.f3.f1))) = false := by simpa using c52))
                (try (have c52b2 : (((rd_T29 x6_2 0).f0.f0) == ((rd_T105 l0 a1).f0.f3.f0) && (((rd_T29 x6_2 0).f0.f1) == ((rd_T105 l0 a1).f0.f3.f1))) = false := by simpa using c52))
                (try (have c52b3 : ¬ (((rd_T29 x6_2 0).f0.f0) = ((rd_T105 l0 a1).f0.f3.f0) && (((rd_T29 x6_2 0).f0.f1) == ((rd_T105 l0 a1).f0.f3.f1))) := by simpa using c52))
                clear c52
                obtain rfl := Option.some.inj H
                have hcz56 := blk_cell BK239.out
                have hfz56 := blk_frozen BK239.out
                obtain ⟨Ao57, co57, eo57⟩ := Kd.R_slice HO_6.out
                subst eo57
                have p254 : 0 ≤ (0 : Int) := (by omega)
                have q254 : 0 < (x6_2.length : Int) := of_decide_eq_true (by first | (with_reducible assumption) | assumption)
                obtain ⟨ad254, e254, hx254_0, hx254_1, hx254_2⟩ := at_T29 (Kd.R_reads' HO_6.out).2.2 0 p254 q254
                cases e254
                have qi254 : (0 < x6_2.length) = True := eq_true (by omega)
                (try rw [show ((0 : Int)).toNat = 0 from rfl] at hx254_0)
                (try rw [show 0 * 3 = 0 from rfl] at hx254_0)
                (try rw [Addr.add_zero'] at hx254_0)
                (try rw [show ((0 : Int)).toNat = 0 from rfl] at hx254_1)
                (try rw [show 0 * 3 = 0 from rfl] at hx254_1)
                (try rw [Addr.add_zero'] at hx254_1)
                (try rw [show ((0 : Int)).toNat = 0 from rfl] at hx254_2)
                (try rw [show 0 * 3 = 0 from rfl] at hx254_2)
                (try rw [Addr.add_zero'] at hx254_2)
                replace p254 := eq_true p254
                replace q254 := eq_true q254
                go_wp2
                repeat (go_quiet (fail); try go_wp2)
                go_ret
                exact ⟨eq_, bl_⟩
              ·rw [if_neg c51] at H
               exact absurd H (by simp)
             ·rw [if_neg c50] at H
              have c50b0 : ((x6_2.length : Int) == 2) = false := beq_eq_false_iff_ne.mpr c50
              have c50b1 : ((x6_2.length : Int) != 2) = true := bne_iff_ne.mpr c50
              obtain rfl := Option.some.inj H
              have hcz58 := blk_cell BK239.out
              have hfz58 := blk_frozen BK239.out
              obtain ⟨Ao59, co59, eo59⟩ := Kd.R_slice HO_6.out
              subst eo59
              go_wp2
              repeat (go_quiet (fail); try go_wp2)
              go_ret
              exact ⟨eq_, bl_⟩
            ·rw [if_neg c49] at H
             have c49b0 : (((rd_T105 l0 a1).f0.f0) == 3) = false := beq_eq_false_iff_ne.mpr c49
             have c49b1 : (((rd_T105 l0 a1).f0.f0) != 3) = true := bne_iff_ne.mpr c49
             by_cases c60 : (x6_2.length : Int) = 2
             ·rw [if_pos c60] at H
              have c60b0 : ((x6_2.length : Int) == 2) = true := beq_iff_eq.mpr c60
              have c60b1 : ((x6_2.length : Int) != 2) = false := bne_eq_false_iff_eq.mpr c60
              clear c60
              by_cases c61 : 0 < (x6_2.length : Int)
              ·rw [if_pos c61] at H
               have c61b0 : decide (0 < (x6_2.length : Int)) = true := decide_eq_true c61
               have c61b1 : decide (0 < x6_2.length) = true := decide_eq_true (by omega)
               clear c61
               by_cases c62 : ((((rd_T29 x6_2 0).f0.f0) == ((rd_T105 l0 a1).f0.f3.f0) && (((rd_T29 x6_2 0).f0.f1) == ((rd_T105 l0 a1).f0.f3.f1))) && (((rd_T29 x6_2 0).f1) == ((rd_T105 l0 a1).f1.f1))) = true
               ·rw [if_pos c62] at H
                have c62b0 : ((((rd_T29 x6_2 0).f0.f0) == ((rd_T105 l0 a1).f0.f3.f0) && (((rd_T29 x6_2 0).f0.f1) == ((rd_T105 l0 a1).f0.f3.f1))) && (((rd_T29 x6_2 0).f1) == ((rd_T105 l0 a1).f1.f1))) = true := c62
                clear c62
                by_cases c63 : 1 < (x6_2.length : Int)
                ·rw [if_pos c63] at H
                 have c63b0 : decide (1 < (x6_2.length : Int)) = true := decide_eq_true c63
                 have c63b1 : decide (1 < x6_2.length) = true := decide_eq_true (by omega)
                 clear c63
                 obtain rfl := Option.some.inj H
                 have hcz64 := blk_cell BK239.out
                 have hfz64 := blk_frozen BK239.out
                 obtain ⟨Ao65, co65, eo65⟩ := Kd.R_slice HO_6.out
                 subst eo65
                 have p257 : 0 ≤ (0 : Int) := (by omega)
                 have q257 : 0 < (x6_2.length : Int) := of_decide_eq_true (by first | (with_reducible assumption) | assumption)
                 obtain ⟨ad257, e257, hx257_0, hx257_1, hx257_2⟩ := at_T29 (Kd.R_reads' HO_6.out).2.2 0 p257 q257
                 cases e257
                 have qi257 : (0 < x6_2.length) = True := eq_true (by omega)
                 (try rw [show ((0 : Int)).toNat = 0 from rfl] at hx257_0)
                 (try rw [show 0 * 3 = 0 from rfl] at hx257_0)
                 (try rw [Addr.add_zero'] at hx257_0)
                 (try rw [show ((0 : Int)).toNat = 0 from rfl] at hx257_1)
                 (try rw [show 0 * 3 = 0 from rfl] at hx257_1)
                 (try rw [Addr.add_zero'] at hx257_1)
                 (try rw [show ((0 : Int)).toNat = 0 from rfl] at hx257_2)
                 (try rw [show 0 * 3 = 0 from rfl] at hx257_2)
                 (try rw [Addr.add_zero'] at hx257_2)
                 replace p257 := eq_true p257
                 replace q257 := eq_true q257
                 have p258 : 0 ≤ (1 : Int) := (by omega)
                 have q258 : 1 < (x6_2.length : Int) := of_decide_eq_true (by first | (with_reducible assumption) | assumption)
                 obtain ⟨ad258, e258, hx258_0, hx258_1, hx258_2⟩ := at_T29 (Kd.R_reads' HO_6.out).2.2 1 p258 q258
                 obtain rfl : ad257 = ad258 := (by injection e258)
                 (try simp only [show (1 : Int).toNat = 1 from rfl, Nat.reduceMul, Nat.reduceEqDiff, Go.Addr.add, ↓reduceIte] at hx258_0)
                 (try simp only [show (1 : Int).toNat = 1 from rfl, Nat.reduceMul, Nat.reduceEqDiff, Go.Addr.add, ↓reduceIte] at hx258_1)
                 (try simp only [show (1 : Int).toNat = 1 from rfl, Nat.reduceMul, Nat.reduceEqDiff, Go.Addr.add, ↓reduceIte] at hx258_2)
                 have qi258 : (1 < x6_2.length) = True := eq_true (by omega)
                 (try rw [show ((1 : Int)).toNat = 1 from rfl] at hx258_0)
                 (try rw [show 1 * 3 = 3 from rfl] at hx258_0)
                 (try rw [show ((1 : Int)).toNat = 1 from rfl] at hx258_1)
                 (try rw [show 1 * 3 = 3 from rfl] at hx258_1)
                 (try rw [show ((1 : Int)).toNat = 1 from rfl] at hx258_2)
                 (try rw [show 1 * 3 = 3 from rfl] at hx258_2)
                 replace p258 := eq_true p258
                 replace q258 := eq_true q258
                 go_wp2
                 repeat (go_quiet (fail); try go_wp2)
                 go_ret
                 exact ⟨eq_, bl_⟩
                ·rw [if_neg c63] at H
                 exact absurd H (by simp)
               ·rw [if_neg c62] at H
                have c62b0 : ((((rd_T29 x6_2 0).f0.f0) == ((rd_T105 l0 a1).f0.f3.f0) && (((rd_T29 x6_2 0).f0.f1) == ((rd_T105 l0 a1).f0.f3.f1))) && (((rd_T29 x6_2 0).f1) == ((rd_T105 l0 a1).f1.f1))) = false := by simpa using c62
                clear c62
                obtain rfl := Option.some.inj H
                have hcz66 := blk_cell BK239.out
                have hfz66 := blk_frozen BK239.out
                obtain ⟨Ao67, co67, eo67⟩ := Kd.R_slice HO_6.out
                subst eo67
                have p257 : 0 ≤ (0 : Int) := (by omega)
                have q257 : 0 < (x6_2.length : Int) := of_decide_eq_true (by first | (with_reducible assumption) | assumption)
                obtain ⟨ad257, e257, hx257_0, hx257_1, hx257_2⟩ := at_T29 (Kd.R_reads' HO_6.out).2.2 0 p257 q257
                cases e257
                have qi257 : (0 < x6_2.length) = True := eq_true (by omega)
                (try rw [show ((0 : Int)).toNat = 0 from rfl] at hx257_0)
                (try rw [show 0 * 3 = 0 from rfl] at hx257_0)
                (try rw [Addr.add_zero'] at hx257_0)
                (try rw [show ((0 : Int)).toNat = 0 from rfl] at hx257_1)
                (try rw [show 0 * 3 = 0 from rfl] at hx257_1)
                (try rw [Addr.add_zero'] at hx257_1)
                (try rw [show ((0 : Int)).toNat = 0 from rfl] at hx257_2)
                (try rw [show 0 * 3 = 0 from rfl] at hx257_2)
                (try rw [Addr.add_zero'] at hx257_2)
                replace p257 := eq_true p257
                replace q257 := eq_true q257
                go_wp2
                repeat (go_quiet (fail); try go_wp2)
                go_ret
                exact ⟨eq_, bl_⟩
              ·rw [if_neg c61] at H
               exact absurd H (by simp)
             ·rw [if_neg c60] at H
              have c60b0 : ((x6_2.length : Int) == 2) = false := beq_eq_false_iff_ne.mpr c60
              have c60b1 : ((x6_2.length : Int) != 2) = true := bne_iff_ne.mpr c60
              obtain rfl := Option.some.inj H
              have hcz68 := blk_cell BK239.out
              have hfz68 := blk_frozen BK239.out
              obtain ⟨Ao69, co69, eo69⟩ := Kd.R_slice HO_6.out
              subst eo69
              go_wp2
              repeat (go_quiet (fail); try go_wp2)
              go_ret
              exact ⟨eq_, bl_⟩
   ·rw [if_neg c6] at H
    exact absurd H (by simp)
  ·rw [if_neg c5] at H
   exact absurd H (by simp)
 ·replace c4 := Bool.eq_false_iff.mpr c4
  subst c4
  replace H := ite_f_ H
  obtain rfl := Option.some.inj H
  go_enter Try.func129, Try.ntmps129
  go_wp2_with (first | (go_at_call 83; (with_reducible refine (impl_in.calls a1 0 (wrap64 ((l0.length : Int) - 1)) false _ A3.out).mono ?_); rintro e w' ⟨rfl, ⟨nd, rfl⟩⟩; (try first | exact ⟨rfl, _, World.drewN_drewN _ _ _⟩ | exact ⟨rfl, _, Eq.trans (World.drewN_drewN _ _ _) (congrArg (World.drewN _) (Nat.add_assoc _ _ _))⟩)))
  repeat (go_quiet (first | (go_at_call 83; (with_reducible refine (impl_in.calls a1 0 (wrap64 ((l0.length : Int) - 1)) false _ A3.out).mono ?_); rintro e w' ⟨rfl, ⟨nd, rfl⟩⟩; (try first | exact ⟨rfl, _, World.drewN_drewN _ _ _⟩ | exact ⟨rfl, _, Eq.trans (World.drewN_drewN _ _ _) (congrArg (World.drewN _) (Nat.add_assoc _ _ _))⟩))); try go_wp2_with (first | (go_at_call 83; (with_reducible refine (impl_in.calls a1 0 (wrap64 ((l0.length : Int) - 1)) false _ A3.out).mono ?_); rintro e w' ⟨rfl, ⟨nd, rfl⟩⟩; (try first | exact ⟨rfl, _, World.drewN_drewN _ _ _⟩ | exact ⟨rfl, _, Eq.trans (World.drewN_drewN _ _ _) (congrArg (World.drewN _) (Nat.add_assoc _ _ _))⟩))))
  go_ret
  exact ⟨eq_, bl_⟩
def impl_allStepsOk.l0 : Nat → List (S105) → Int → Int → Option (Bool)
 | 0, _, _, _ => none
 | k + 1, x0, x1, x5 => if x5 ≤ x1 then ((impl_StepOk.f k x0 x5).bind fun t259 => (if t259 = true then (impl_allStepsOk.l0 k x0 x1 (wrap64 (x5 + 1))) else (some false))) else (some true)
def impl_allStepsOk.f (k : Nat) (l0 : List (S105)) (a1 : Int) : Option (Bool) := impl_allStepsOk.l0 k l0 a1 0
set_option maxHeartbeats 8000000 in
set_option maxRecDepth 100000 in
theorem impl_allStepsOk.calls (k : Nat) (A0 : Option Addr) (c0 : Nat) (l0 : List (S105)) (a1 : Int) (r : Bool) (w : World) (hr0 : Kd.C k105 w A0 l0.length l0) (hc0 : l0.length ≤ c0) (h : impl_allStepsOk.f k l0 a1 = some r) :
  Calls Try.prog 88 #[.slice A0 l0.length c0, .int .i64 a1] w fun e w' => e = .returned (.bool r) ∧ Below w.heap.size w w' := by
 have HR0 := Aside0.mk hr0
 have HC0 := Aside0.mk hc0
 clear hr0 hc0
 have HB := Aside0.mk (Below.refl w.heap.size w)
 have H : (impl_allStepsOk.l0 k l0 a1 0) = some r := h
 clear h
 have H' := Aside0.mk H
 clear H
 go_enter Try.func88, Try.ntmps88
 go_wp2
 go_loopg [5] k (fun kq v5 w' => ∃ (x5_1 : Int), v5 = .int .i64 x5_1 ∧ Aside0 (impl_allStepsOk.l0 kq l0 a1 x5_1 = some r) ∧ Aside0 (kq ≤ k) ∧ Aside0 (Below w.heap.size w w'))
 case atStart => exact ⟨(0), (by first | rfl | (simp; done) | (simp [*]; done)), H', ⟨Nat.le_refl _⟩, ⟨bl_⟩⟩
 case round =>
  clear H'
  try clear p2
  obtain ⟨x5_1, rfl, HA, HK1, HB⟩ := hrel
  cases gk with
  | zero => exact absurd HA.out (by simp [impl_allStepsOk.l0])
  | succ k1 =>
   have H := HA.out
   clear HA
   simp only [impl_allStepsOk.l0] at H
   by_cases c3 : x5_1 ≤ a1
   ·rw [if_pos c3] at H
    have c3b0 : decide (x5_1 ≤ a1) = true := decide_eq_true c3
    clear c3
    obtain ⟨t259, A4, H⟩ := bindE_ H
    by_cases c5 : t259 = true
    ·subst c5
     replace H := ite_t_ H
     have H' := Aside0.mk H
     clear H
     go_wp2_with (first | ((with_reducible refine gate_callee (f := 129) rfl ?_); refine goesC_ (some 13) Try.func129 #[.slice A0 l0.length c0, .int .i64 x5_1] ?_; (with_reducible refine (impl_StepOk.calls k1 _ _ l0 x5_1 true _ ?side1 ?side2 A4.out).mono ?_); (case side1 => repeat (first | exact (Kd.C_below HR0.out HB.out) | (with_reducible refine Kd.C_alloc ?_ _) | (with_reducible refine Kd.C_drewN ?_ _) | (with_reducible refine Kd.C_drew ?_))); (case side2 => exact HC0.out); rintro e w6 ⟨rfl, hb⟩; refine ⟨_, rfl, ?_⟩; replace HB := hbs_ hb; clear hb))
     go_roundg k1
     case measure => have := HK1.out; omega
     case rel => exact ⟨(wrap64 (x5_1 + 1)), (by first | rfl | (simp; done) | (simp [*]; done)), H', ⟨by have := HK1.out; omega⟩, ⟨bl_⟩⟩
    ·replace c5 := Bool.eq_false_iff.mpr c5
     subst c5
     replace H := ite_f_ H
     obtain rfl := Option.some.inj H
     go_wp2_with (first | ((with_reducible refine gate_callee (f := 129) rfl ?_); refine goesC_ (some 13) Try.func129 #[.slice A0 l0.length c0, .int .i64 x5_1] ?_; (with_reducible refine (impl_StepOk.calls k1 _ _ l0 x5_1 false _ ?side1 ?side2 A4.out).mono ?_); (case side1 => repeat (first | exact (Kd.C_below HR0.out HB.out) | (with_reducible refine Kd.C_alloc ?_ _) | (with_reducible refine Kd.C_drewN ?_ _) | (with_reducible refine Kd.C_drew ?_))); (case side2 => exact HC0.out); rintro e w7 ⟨rfl, hb⟩; refine ⟨_, rfl, ?_⟩; replace HB := hbs_ hb; clear hb))
     go_ret
     exact ⟨eq_, bl_⟩
   ·rw [if_neg c3] at H
    have c3b0 : decide (x5_1 ≤ a1) = false := decide_eq_false c3
    clear c3
    obtain rfl := Option.some.inj H
    go_wp2
    go_ret
    exact ⟨eq_, bl_⟩
end Go.Proofs.Ytppdmcimddhbaaa.PA
