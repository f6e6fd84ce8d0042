import Derived.Test.YtcnjbkfnijnpnaaKSPAx2
import Derived.Test.YtcnjbkfnijnpnaaKSPAx11
-- printed by wip/tools
namespace Go.Proofs.Ytcnjbkfnijnpnaa.PA
open Go.RowKit Go.Proofs.YtcnjbkfnijnpnaaW.PrintWords Go.Proofs.YtcnjbkfnijnpnaaW.PrintLast Go.Proofs.YtcnjbkfnijnpnaaW.PrintMore
attribute [local go_sem] max2_int min2_int max_two min_two max_three min_three max_four min_four
set_option linter.unusedVariables false
set_option linter.unusedSimpArgs false
attribute [local go_sem high] eqA55 eqA57
mutual
def impl_StepOk.j0 : Nat → List (S80) → Int → Bool → Int → Int → Int → Int → Int → Int → Int → Int → Int → Int → Int → Int → Int → List Int → Option (Bool)
 | 0, _, _, _, _, _, _, _, _, _, _, _, _, _, _, _, _, _ => none
 | k + 1, x0, x1, x34, x439000, x439001, x439002, x439003, x439004, x439005, x439006, x439007, x439008, x439009, x439010, x439011, x439012, x439013 => if x34 = true then (some false) else (impl_StepOk.l0 k x0 x1 (([] : List (S57))) x439013 (x439013.length : Int) 0 x439000 x439001 x439002 x439003 x439004 x439005 x439006 x439007 x439008 x439009 x439010 x439011 x439012 x439013)
def impl_StepOk.l0 : Nat → List (S80) → Int → List (S57) → List Int → Int → Int → Int → Int → Int → Int → Int → Int → Int → Int → Int → Int → Int → Int → Int → List Int → Option (Bool)
 | 0, _, _, _, _, _, _, _, _, _, _, _, _, _, _, _, _, _, _, _, _ => none
 | k + 1, x0, x1, x6, x37, x38, x39, x439000, x439001, x439002, x439003, x439004, x439005, x439006, x439007, x439008, x439009, x439010, x439011, x439012, x439013 => if x39 < x38 then (if 0 ≤ x39 then (if x39 < (x37.length : Int) then ((impl_shown.f x0 x1 (rd x37 x39)).bind fun bt444 => (if bt444.2.2.2 = true then (if x6.length < 5864062014805 then (impl_StepOk.l0 k x0 x1 (x6 ++ [(⟨(⟨bt444.1, bt444.2.1⟩ : S55), bt444.2.2.1⟩ : S57)]) x37 x38 (wrap64 (x39 + 1)) x439000 x439001 x439002 x439003 x439004 x439005 x439006 x439007 x439008 x439009 x439010 x439011 x439012 x439013) else (none)) else (some false))) else (none)) else (none)) else (if x439000 = 1 then (if (x6.length : Int) = 0 then (some (x439012 == x439003)) else (some false)) else (if x439000 = 2 then (if (x6.length : Int) = 1 then (if 0 < (x6.length : Int) then (some ((((rd_T57 x6 0).f0.f0) == x439004 && (((rd_T57 x6 0).f0.f1) == x439005)) && (((rd_T57 x6 0).f1) == x439012))) else (none)) else (some false)) else (if x439000 = 3 then (if (x6.length : Int) = 2 then (if 0 < (x6.length : Int) then (if (((rd_T57 x6 0).f0.f0) == x439004 && (((rd_T57 x6 0).f0.f1) == x439005)) = true then (if 1 < (x6.length : Int) then (some ((((rd_T57 x6 1).f0.f0) == ((rd_T57 x6 0).f1) && (((rd_T57 x6 1).f0.f1) == x439007)) && (((rd_T57 x6 1).f1) == x439012))) else (none)) else (some false)) else (none)) else (some false)) else (if (x6.length : Int) = 2 then (if 0 < (x6.length : Int) then (if ((((rd_T57 x6 0).f0.f0) == x439004 && (((rd_T57 x6 0).f0.f1) == x439005)) && (((rd_T57 x6 0).f1) == x439012)) = true then (if 1 < (x6.length : Int) then (some ((((rd_T57 x6 1).f0.f0) == x439006 && (((rd_T57 x6 1).f0.f1) == x439007)) && (((rd_T57 x6 1).f1) == x439012))) else (none)) else (some false)) else (none)) else (some false)))))
end
def impl_StepOk.f (k : Nat) (l0 : List (S80)) (a1 : Int) : Option (Bool) := (impl_in.f a1 0 (wrap64 ((l0.length : Int) - 1))).bind fun t436 => (if t436 = true then (if 0 ≤ a1 then (if a1 < (l0.length : Int) then ((impl_CredOk.f k ((rd_T80 l0 a1).f0.f0) ((rd_T80 l0 a1).f0.f1.f0) ((rd_T80 l0 a1).f0.f1.f1) ((rd_T80 l0 a1).f0.f2) ((rd_T80 l0 a1).f0.f3.f0) ((rd_T80 l0 a1).f0.f3.f1) ((rd_T80 l0 a1).f0.f4.f0) ((rd_T80 l0 a1).f0.f4.f1) ((rd_T80 l0 a1).f0.f5) ((rd_T80 l0 a1).f0.f6)).bind fun t439 => (if t439 = true then (impl_StepOk.j0 k l0 a1 (!(((rd_T80 l0 a1).f1.f0.f0) == ((rd_T80 l0 a1).f0.f1.f0)) || (!(((rd_T80 l0 a1).f1.f0.f1) == ((rd_T80 l0 a1).f0.f1.f1)))) ((rd_T80 l0 a1).f0.f0) ((rd_T80 l0 a1).f0.f1.f0) ((rd_T80 l0 a1).f0.f1.f1) ((rd_T80 l0 a1).f0.f2) ((rd_T80 l0 a1).f0.f3.f0) ((rd_T80 l0 a1).f0.f3.f1) ((rd_T80 l0 a1).f0.f4.f0) ((rd_T80 l0 a1).f0.f4.f1) ((rd_T80 l0 a1).f0.f5) ((rd_T80 l0 a1).f0.f6) ((rd_T80 l0 a1).f1.f0.f0) ((rd_T80 l0 a1).f1.f0.f1) ((rd_T80 l0 a1).f1.f1) ((rd_T80 l0 a1).f2)) else (impl_StepOk.j0 k l0 a1 true ((rd_T80 l0 a1).f0.f0) ((rd_T80 l0 a1).f0.f1.f0) ((rd_T80 l0 a1).f0.f1.f1) ((rd_T80 l0 a1).f0.f2) ((rd_T80 l0 a1).f0.f3.f0) ((rd_T80 l0 a1).f0.f3.f1) ((rd_T80 l0 a1).f0.f4.f0) ((rd_T80 l0 a1).f0.f4.f1) ((rd_T80 l0 a1).f0.f5) ((rd_T80 l0 a1).f0.f6) ((rd_T80 l0 a1).f1.f0.f0) ((rd_T80 l0 a1).f1.f0.f1) ((rd_T80 l0 a1).f1.f1) ((rd_T80 l0 a1).f2)))) else (none)) else (none)) else (some false))
set_option maxHeartbeats 8000000 in
set_option maxRecDepth 100000 in
theorem impl_StepOk.calls (k : Nat) (A0 : Option Addr) (c0 : Nat) (l0 : List (S80)) (a1 : Int) (r : Bool) (w : World) (hr0 : Kd.C k80 w A0 l0.length l0) (hc0 : l0.length ≤ c0) (h : impl_StepOk.f k l0 a1 = some r) :
  Calls Try.prog 59 #[.slice A0 l0.length c0, .int .i64 a1] w fun e w' => e = .returned (.bool r) ∧ Below w.heap.size w w' := by
 have hu80 := Try.underlying80
 have hu61 := Try.underlying61
 have hu55 := Try.underlying55
 have hu57 := Try.underlying57
 have HR0 := aa_ hr0
 have HC0 := aa_ hc0
 clear hr0 hc0
 have HB := aa_ (Below.refl w.heap.size w)
 have H : ((impl_in.f a1 0 (wrap64 ((l0.length : Int) - 1))).bind fun t436 => (if t436 = true then (if 0 ≤ a1 then (if a1 < (l0.length : Int) then ((impl_CredOk.f k ((rd_T80 l0 a1).f0.f0) ((rd_T80 l0 a1).f0.f1.f0) ((rd_T80 l0 a1).f0.f1.f1) ((rd_T80 l0 a1).f0.f2) ((rd_T80 l0 a1).f0.f3.f0) ((rd_T80 l0 a1).f0.f3.f1) ((rd_T80 l0 a1).f0.f4.f0) ((rd_T80 l0 a1).f0.f4.f1) ((rd_T80 l0 a1).f0.f5) ((rd_T80 l0 a1).f0.f6)).bind fun t439 => (if t439 = true then (impl_StepOk.j0 k l0 a1 (!(((rd_T80 l0 a1).f1.f0.f0) == ((rd_T80 l0 a1).f0.f1.f0)) || (!(((rd_T80 l0 a1).f1.f0.f1) == ((rd_T80 l0 a1).f0.f1.f1)))) ((rd_T80 l0 a1).f0.f0) ((rd_T80 l0 a1).f0.f1.f0) ((rd_T80 l0 a1).f0.f1.f1) ((rd_T80 l0 a1).f0.f2) ((rd_T80 l0 a1).f0.f3.f0) ((rd_T80 l0 a1).f0.f3.f1) ((rd_T80 l0 a1).f0.f4.f0) ((rd_T80 l0 a1).f0.f4.f1) ((rd_T80 l0 a1).f0.f5) ((rd_T80 l0 a1).f0.f6) ((rd_T80 l0 a1).f1.f0.f0) ((rd_T80 l0 a1).f1.f0.f1) ((rd_T80 l0 a1).f1.f1) ((rd_T80 l0 a1).f2)) else (impl_StepOk.j0 k l0 a1 true ((rd_T80 l0 a1).f0.f0) ((rd_T80 l0 a1).f0.f1.f0) ((rd_T80 l0 a1).f0.f1.f1) ((rd_T80 l0 a1).f0.f2) ((rd_T80 l0 a1).f0.f3.f0) ((rd_T80 l0 a1).f0.f3.f1) ((rd_T80 l0 a1).f0.f4.f0) ((rd_T80 l0 a1).f0.f4.f1) ((rd_T80 l0 a1).f0.f5) ((rd_T80 l0 a1).f0.f6) ((rd_T80 l0 a1).f1.f0.f0) ((rd_T80 l0 a1).f1.f0.f1) ((rd_T80 l0 a1).f1.f1) ((rd_T80 l0 a1).f2)))) else (none)) else (none)) else (some false))) = some r := h
 clear h
 obtain ⟨t436, A3, H⟩ := bindE_ H
 have HC4 := aa_ H
 clear H
 go_enter Try.func59, Try.ntmps59
 go_upto_if 17 with (first | (go_at_call 58; (with_reducible refine (impl_in.calls a1 0 (wrap64 ((l0.length : Int) - 1)) t436 _ A3.out).mono ?_); rintro e w' ⟨rfl, ⟨nd, rfl⟩⟩; (try first | exact ⟨rfl, _, World.drewN_drewN _ _ _⟩ | exact ⟨rfl, _, Eq.trans (World.drewN_drewN _ _ _) (congrArg (World.drewN _) (Nat.add_assoc _ _ _))⟩)))
 repeat (go_quiet (first | (go_at_call 58; (with_reducible refine (impl_in.calls a1 0 (wrap64 ((l0.length : Int) - 1)) t436 _ A3.out).mono ?_); rintro e w' ⟨rfl, ⟨nd, rfl⟩⟩; (try first | exact ⟨rfl, _, World.drewN_drewN _ _ _⟩ | exact ⟨rfl, _, Eq.trans (World.drewN_drewN _ _ _) (congrArg (World.drewN _) (Nat.add_assoc _ _ _))⟩))); go_upto_if 17 with (first | (go_at_call 58; (with_reducible refine (impl_in.calls a1 0 (wrap64 ((l0.length : Int) - 1)) t436 _ A3.out).mono ?_); rintro e w' ⟨rfl, ⟨nd, rfl⟩⟩; (try first | exact ⟨rfl, _, World.drewN_drewN _ _ _⟩ | exact ⟨rfl, _, Eq.trans (World.drewN_drewN _ _ _) (congrArg (World.drewN _) (Nat.add_assoc _ _ _))⟩))))
 (try simp only [Act.put, List.setIfInBounds_toArray, List.set_cons_zero, List.set_cons_succ])
 have H := HC4.out
 clear HC4
 by_cases c5 : t436 = true
 ·subst c5
  replace H := ite_t_ H
  obtain ⟨c6b0, H⟩ := ifd_ H
  (first | rw [c6b0] | (simp only [i64_w, i32_w]; rw [c6b0]) | skip)
  obtain ⟨c7b0, H⟩ := ifd_ H
  have HC8 := aa_ H
  clear H
  have p437 : 0 ≤ (a1 : Int) := od_
  have q437 : a1 < (l0.length : Int) := od_
  obtain ⟨ad437, A437_13, c437_13, e437, hx437_0, hx437_1, hx437_2, hx437_3, hx437_4, hx437_5, hx437_6, hx437_7, hx437_8, hx437_9, hx437_10, hx437_11, hx437_12, hx437_13, hl437_13, hi437_13⟩ := at_T80 HR0.out a1 p437 q437
  cases e437
  replace hx437_0 := cb_ HB hx437_0
  replace hx437_1 := cb_ HB hx437_1
  replace hx437_2 := cb_ HB hx437_2
  replace hx437_3 := cb_ HB hx437_3
  replace hx437_4 := cb_ HB hx437_4
  replace hx437_5 := cb_ HB hx437_5
  replace hx437_6 := cb_ HB hx437_6
  replace hx437_7 := cb_ HB hx437_7
  replace hx437_8 := cb_ HB hx437_8
  replace hx437_9 := cb_ HB hx437_9
  replace hx437_10 := cb_ HB hx437_10
  replace hx437_11 := cb_ HB hx437_11
  replace hx437_12 := cb_ HB hx437_12
  replace hx437_13 := cb_ HB hx437_13
  have HR437_13 := aa_ hi437_13
  have HC437_13 := aa_ hl437_13
  clear hi437_13 hl437_13
  replace p437 := eq_true p437
  replace q437 := eq_true q437
  go_upto_region 4 with (first | ((with_reducible refine gD_ 5 rfl ?_); refine bx_ (N := 5) (cs := #[.int .i64 0, .int .i64 0, .int .i64 0, .int .i64 0, .int .i64 0, .int .i64 0, .int .i64 0, .int .i64 0, .int .i64 0, .int .i64 0, .int .i64 0, .int .i64 0, .int .i64 0, .slice none 0 0]) (t := 80) ?_; intro gb438 hg w9 hbox hb; have BK438 := aa_ (hbox); have GW438 := gs_ hg; have GE438 := gs_ hg; replace HB := hbs_ hb; clear hb hbox hg; obtain ⟨hcz10, hfz10⟩ := bcf_ BK438))
  repeat (go_quiet (first | ((with_reducible refine gD_ 5 rfl ?_); refine bx_ (N := 5) (cs := #[.int .i64 0, .int .i64 0, .int .i64 0, .int .i64 0, .int .i64 0, .int .i64 0, .int .i64 0, .int .i64 0, .int .i64 0, .int .i64 0, .int .i64 0, .int .i64 0, .int .i64 0, .slice none 0 0]) (t := 80) ?_; intro gb438 hg w9 hbox hb; have BK438 := aa_ (hbox); have GW438 := gs_ hg; have GE438 := gs_ hg; replace HB := hbs_ hb; clear hb hbox hg; obtain ⟨hcz10, hfz10⟩ := bcf_ BK438)); go_upto_region 4 with (first | ((with_reducible refine gD_ 5 rfl ?_); refine bx_ (N := 5) (cs := #[.int .i64 0, .int .i64 0, .int .i64 0, .int .i64 0, .int .i64 0, .int .i64 0, .int .i64 0, .int .i64 0, .int .i64 0, .int .i64 0, .int .i64 0, .int .i64 0, .int .i64 0, .slice none 0 0]) (t := 80) ?_; intro gb438 hg w9 hbox hb; have BK438 := aa_ (hbox); have GW438 := gs_ hg; have GE438 := gs_ hg; replace HB := hbs_ hb; clear hb hbox hg; obtain ⟨hcz10, hfz10⟩ := bcf_ BK438)))
  (try simp only [Act.put, List.setIfInBounds_toArray, List.set_cons_zero, List.set_cons_succ])
  go_cut [34] (fun v34 wc => ∃ (kq : Nat) (x34_7 : Bool), v34 = .bool x34_7 ∧ Aside0 (impl_StepOk.j0 kq l0 a1 x34_7 ((rd_T80 l0 a1).f0.f0) ((rd_T80 l0 a1).f0.f1.f0) ((rd_T80 l0 a1).f0.f1.f1) ((rd_T80 l0 a1).f0.f2) ((rd_T80 l0 a1).f0.f3.f0) ((rd_T80 l0 a1).f0.f3.f1) ((rd_T80 l0 a1).f0.f4.f0) ((rd_T80 l0 a1).f0.f4.f1) ((rd_T80 l0 a1).f0.f5) ((rd_T80 l0 a1).f0.f6) ((rd_T80 l0 a1).f1.f0.f0) ((rd_T80 l0 a1).f1.f0.f1) ((rd_T80 l0 a1).f1.f1) ((rd_T80 l0 a1).f2) = some r) ∧ Aside0 (kq ≤ k) ∧ Aside0 (wc.heap[gb438]? = some (.cells #[.int .i64 ((rd_T80 l0 a1).f0.f0), .int .i64 ((rd_T80 l0 a1).f0.f1.f0), .int .i64 ((rd_T80 l0 a1).f0.f1.f1), .int .i64 ((rd_T80 l0 a1).f0.f2), .int .i64 ((rd_T80 l0 a1).f0.f3.f0), .int .i64 ((rd_T80 l0 a1).f0.f3.f1), .int .i64 ((rd_T80 l0 a1).f0.f4.f0), .int .i64 ((rd_T80 l0 a1).f0.f4.f1), .int .i64 ((rd_T80 l0 a1).f0.f5), .int .i64 ((rd_T80 l0 a1).f0.f6), .int .i64 ((rd_T80 l0 a1).f1.f0.f0), .int .i64 ((rd_T80 l0 a1).f1.f0.f1), .int .i64 ((rd_T80 l0 a1).f1.f1), (.slice A437_13 ((rd_T80 l0 a1).f2).length c437_13)] 80 (0, 0))) ∧ Aside0 (Below w.heap.size w wc))
  case first =>
   have H := HC8.out
   clear HC8
   obtain ⟨t439, A11, H⟩ := bindE_ H
   by_cases c12 : t439 = true
   ·subst c12
    replace H := ite_t_ H
    have H' := aa_ H
    clear H
    have hcz13 := blk_cell BK438.out
    have hfz13 := blk_frozen BK438.out
    go_wp2_with (first | (go_at_call 60; (with_reducible refine (impl_CredOk.calls k ((rd_T80 l0 a1).f0.f0) ((rd_T80 l0 a1).f0.f1.f0) ((rd_T80 l0 a1).f0.f1.f1) ((rd_T80 l0 a1).f0.f2) ((rd_T80 l0 a1).f0.f3.f0) ((rd_T80 l0 a1).f0.f3.f1) ((rd_T80 l0 a1).f0.f4.f0) ((rd_T80 l0 a1).f0.f4.f1) ((rd_T80 l0 a1).f0.f5) ((rd_T80 l0 a1).f0.f6) true _ A11.out).mono ?_); rintro e w14 ⟨rfl, hb⟩; replace BK438 := aa_ (blk_below (g := gb438) (o := .cells #[.int .i64 ((rd_T80 l0 a1).f0.f0), .int .i64 ((rd_T80 l0 a1).f0.f1.f0), .int .i64 ((rd_T80 l0 a1).f0.f1.f1), .int .i64 ((rd_T80 l0 a1).f0.f2), .int .i64 ((rd_T80 l0 a1).f0.f3.f0), .int .i64 ((rd_T80 l0 a1).f0.f3.f1), .int .i64 ((rd_T80 l0 a1).f0.f4.f0), .int .i64 ((rd_T80 l0 a1).f0.f4.f1), .int .i64 ((rd_T80 l0 a1).f0.f5), .int .i64 ((rd_T80 l0 a1).f0.f6), .int .i64 ((rd_T80 l0 a1).f1.f0.f0), .int .i64 ((rd_T80 l0 a1).f1.f0.f1), .int .i64 ((rd_T80 l0 a1).f1.f1), .slice A437_13 ((rd_T80 l0 a1).f2).length c437_13] 80 (0, 0)) (bk_ BK438) hb); replace HB := hbs_ hb; clear hb; obtain ⟨hcz15, hfz15⟩ := bcf_ BK438))
    repeat (go_quiet (first | (go_at_call 60; (with_reducible refine (impl_CredOk.calls k ((rd_T80 l0 a1).f0.f0) ((rd_T80 l0 a1).f0.f1.f0) ((rd_T80 l0 a1).f0.f1.f1) ((rd_T80 l0 a1).f0.f2) ((rd_T80 l0 a1).f0.f3.f0) ((rd_T80 l0 a1).f0.f3.f1) ((rd_T80 l0 a1).f0.f4.f0) ((rd_T80 l0 a1).f0.f4.f1) ((rd_T80 l0 a1).f0.f5) ((rd_T80 l0 a1).f0.f6) true _ A11.out).mono ?_); rintro e w14 ⟨rfl, hb⟩; replace BK438 := aa_ (blk_below (g := gb438) (o := .cells #[.int .i64 ((rd_T80 l0 a1).f0.f0), .int .i64 ((rd_T80 l0 a1).f0.f1.f0), .int .i64 ((rd_T80 l0 a1).f0.f1.f1), .int .i64 ((rd_T80 l0 a1).f0.f2), .int .i64 ((rd_T80 l0 a1).f0.f3.f0), .int .i64 ((rd_T80 l0 a1).f0.f3.f1), .int .i64 ((rd_T80 l0 a1).f0.f4.f0), .int .i64 ((rd_T80 l0 a1).f0.f4.f1), .int .i64 ((rd_T80 l0 a1).f0.f5), .int .i64 ((rd_T80 l0 a1).f0.f6), .int .i64 ((rd_T80 l0 a1).f1.f0.f0), .int .i64 ((rd_T80 l0 a1).f1.f0.f1), .int .i64 ((rd_T80 l0 a1).f1.f1), .slice A437_13 ((rd_T80 l0 a1).f2).length c437_13] 80 (0, 0)) (bk_ BK438) hb); replace HB := hbs_ hb; clear hb; obtain ⟨hcz15, hfz15⟩ := bcf_ BK438)); try go_wp2_with (first | (go_at_call 60; (with_reducible refine (impl_CredOk.calls k ((rd_T80 l0 a1).f0.f0) ((rd_T80 l0 a1).f0.f1.f0) ((rd_T80 l0 a1).f0.f1.f1) ((rd_T80 l0 a1).f0.f2) ((rd_T80 l0 a1).f0.f3.f0) ((rd_T80 l0 a1).f0.f3.f1) ((rd_T80 l0 a1).f0.f4.f0) ((rd_T80 l0 a1).f0.f4.f1) ((rd_T80 l0 a1).f0.f5) ((rd_T80 l0 a1).f0.f6) true _ A11.out).mono ?_); rintro e w14 ⟨rfl, hb⟩; replace BK438 := aa_ (blk_below (g := gb438) (o := .cells #[.int .i64 ((rd_T80 l0 a1).f0.f0), .int .i64 ((rd_T80 l0 a1).f0.f1.f0), .int .i64 ((rd_T80 l0 a1).f0.f1.f1), .int .i64 ((rd_T80 l0 a1).f0.f2), .int .i64 ((rd_T80 l0 a1).f0.f3.f0), .int .i64 ((rd_T80 l0 a1).f0.f3.f1), .int .i64 ((rd_T80 l0 a1).f0.f4.f0), .int .i64 ((rd_T80 l0 a1).f0.f4.f1), .int .i64 ((rd_T80 l0 a1).f0.f5), .int .i64 ((rd_T80 l0 a1).f0.f6), .int .i64 ((rd_T80 l0 a1).f1.f0.f0), .int .i64 ((rd_T80 l0 a1).f1.f0.f1), .int .i64 ((rd_T80 l0 a1).f1.f1), .slice A437_13 ((rd_T80 l0 a1).f2).length c437_13] 80 (0, 0)) (bk_ BK438) hb); replace HB := hbs_ hb; clear hb; obtain ⟨hcz15, hfz15⟩ := bcf_ BK438)))
    go_meet
    case rel => exact ⟨_, ((!(((rd_T80 l0 a1).f1.f0.f0) == ((rd_T80 l0 a1).f0.f1.f0)) || (!(((rd_T80 l0 a1).f1.f0.f1) == ((rd_T80 l0 a1).f0.f1.f1))))), rf_, H', ⟨by first | omega | exact Nat.le_refl _⟩, ⟨bk_ BK438⟩, ⟨bl_⟩⟩
   ·replace c12 := Bool.eq_false_iff.mpr c12
    subst c12
    replace H := ite_f_ H
    have H' := aa_ H
    clear H
    have hcz16 := blk_cell BK438.out
    have hfz16 := blk_frozen BK438.out
    go_wp2_with (first | (go_at_call 60; (with_reducible refine (impl_CredOk.calls k ((rd_T80 l0 a1).f0.f0) ((rd_T80 l0 a1).f0.f1.f0) ((rd_T80 l0 a1).f0.f1.f1) ((rd_T80 l0 a1).f0.f2) ((rd_T80 l0 a1).f0.f3.f0) ((rd_T80 l0 a1).f0.f3.f1) ((rd_T80 l0 a1).f0.f4.f0) ((rd_T80 l0 a1).f0.f4.f1) ((rd_T80 l0 a1).f0.f5) ((rd_T80 l0 a1).f0.f6) false _ A11.out).mono ?_); rintro e w17 ⟨rfl, hb⟩; replace BK438 := aa_ (blk_below (g := gb438) (o := .cells #[.int .i64 ((rd_T80 l0 a1).f0.f0), .int .i64 ((rd_T80 l0 a1).f0.f1.f0), .int .i64 ((rd_T80 l0 a1).f0.f1.f1), .int .i64 ((rd_T80 l0 a1).f0.f2), .int .i64 ((rd_T80 l0 a1).f0.f3.f0), .int .i64 ((rd_T80 l0 a1).f0.f3.f1), .int .i64 ((rd_T80 l0 a1).f0.f4.f0), .int .i64 ((rd_T80 l0 a1).f0.f4.f1), .int .i64 ((rd_T80 l0 a1).f0.f5), .int .i64 ((rd_T80 l0 a1).f0.f6), .int .i64 ((rd_T80 l0 a1).f1.f0.f0), .int .i64 ((rd_T80 l0 a1).f1.f0.f1), .int .i64 ((rd_T80 l0 a1).f1.f1), .slice A437_13 ((rd_T80 l0 a1).f2).length c437_13] 80 (0, 0)) (bk_ BK438) hb); replace HB := hbs_ hb; clear hb))
    repeat (go_quiet (first | (go_at_call 60; (with_reducible refine (impl_CredOk.calls k ((rd_T80 l0 a1).f0.f0) ((rd_T80 l0 a1).f0.f1.f0) ((rd_T80 l0 a1).f0.f1.f1) ((rd_T80 l0 a1).f0.f2) ((rd_T80 l0 a1).f0.f3.f0) ((rd_T80 l0 a1).f0.f3.f1) ((rd_T80 l0 a1).f0.f4.f0) ((rd_T80 l0 a1).f0.f4.f1) ((rd_T80 l0 a1).f0.f5) ((rd_T80 l0 a1).f0.f6) false _ A11.out).mono ?_); rintro e w17 ⟨rfl, hb⟩; replace BK438 := aa_ (blk_below (g := gb438) (o := .cells #[.int .i64 ((rd_T80 l0 a1).f0.f0), .int .i64 ((rd_T80 l0 a1).f0.f1.f0), .int .i64 ((rd_T80 l0 a1).f0.f1.f1), .int .i64 ((rd_T80 l0 a1).f0.f2), .int .i64 ((rd_T80 l0 a1).f0.f3.f0), .int .i64 ((rd_T80 l0 a1).f0.f3.f1), .int .i64 ((rd_T80 l0 a1).f0.f4.f0), .int .i64 ((rd_T80 l0 a1).f0.f4.f1), .int .i64 ((rd_T80 l0 a1).f0.f5), .int .i64 ((rd_T80 l0 a1).f0.f6), .int .i64 ((rd_T80 l0 a1).f1.f0.f0), .int .i64 ((rd_T80 l0 a1).f1.f0.f1), .int .i64 ((rd_T80 l0 a1).f1.f1), .slice A437_13 ((rd_T80 l0 a1).f2).length c437_13] 80 (0, 0)) (bk_ BK438) hb); replace HB := hbs_ hb; clear hb)); try go_wp2_with (first | (go_at_call 60; (with_reducible refine (impl_CredOk.calls k ((rd_T80 l0 a1).f0.f0) ((rd_T80 l0 a1).f0.f1.f0) ((rd_T80 l0 a1).f0.f1.f1) ((rd_T80 l0 a1).f0.f2) ((rd_T80 l0 a1).f0.f3.f0) ((rd_T80 l0 a1).f0.f3.f1) ((rd_T80 l0 a1).f0.f4.f0) ((rd_T80 l0 a1).f0.f4.f1) ((rd_T80 l0 a1).f0.f5) ((rd_T80 l0 a1).f0.f6) false _ A11.out).mono ?_); rintro e w17 ⟨rfl, hb⟩; replace BK438 := aa_ (blk_below (g := gb438) (o := .cells #[.int .i64 ((rd_T80 l0 a1).f0.f0), .int .i64 ((rd_T80 l0 a1).f0.f1.f0), .int .i64 ((rd_T80 l0 a1).f0.f1.f1), .int .i64 ((rd_T80 l0 a1).f0.f2), .int .i64 ((rd_T80 l0 a1).f0.f3.f0), .int .i64 ((rd_T80 l0 a1).f0.f3.f1), .int .i64 ((rd_T80 l0 a1).f0.f4.f0), .int .i64 ((rd_T80 l0 a1).f0.f4.f1), .int .i64 ((rd_T80 l0 a1).f0.f5), .int .i64 ((rd_T80 l0 a1).f0.f6), .int .i64 ((rd_T80 l0 a1).f1.f0.f0), .int .i64 ((rd_T80 l0 a1).f1.f0.f1), .int .i64 ((rd_T80 l0 a1).f1.f1), .slice A437_13 ((rd_T80 l0 a1).f2).length c437_13] 80 (0, 0)) (bk_ BK438) hb); replace HB := hbs_ hb; clear hb)))
    go_meet
    case rel => exact ⟨_, (true), rf_, H', ⟨by first | omega | exact Nat.le_refl _⟩, ⟨bk_ BK438⟩, ⟨bl_⟩⟩
  case rest =>
   clear HC8
   try clear c1
   try clear p2
   try clear c4
   try clear p4
   try clear q4
   try clear hx4
   try clear c5
   try clear c6
   try clear c6b0
   try clear p6
   try clear c7
   try clear c7b0
   try clear c12
   try clear hcz10
   try clear hcz13
   try clear hcz15
   try clear hcz16
   try clear hfz10
   try clear hfz13
   try clear hfz15
   try clear hfz16
   try clear hx437_0
   try clear hx437_1
   try clear hx437_10
   try clear hx437_11
   try clear hx437_12
   try clear hx437_13
   try clear hx437_2
   try clear hx437_3
   try clear hx437_4
   try clear hx437_5
   try clear hx437_6
   try clear hx437_7
   try clear hx437_8
   try clear hx437_9
   try clear p437
   try clear q437
   obtain ⟨kq, x34_7, rfl, HA, HJ7, BK438, HB⟩ := hcut
   cases kq with
   | zero => exact absurd HA.out (by simp [impl_StepOk.j0])
   | succ kj7 =>
    have H := HA.out
    clear HA
    simp only [impl_StepOk.j0] at H
    by_cases c18 : x34_7 = true
    ·subst c18
     replace H := ite_t_ H
     obtain rfl := Option.some.inj H
     go_wp2
     repeat (go_quiet (fail); try go_wp2)
     go_ret
     exact ⟨eq_, bl_⟩
    ·replace c18 := Bool.eq_false_iff.mpr c18
     subst c18
     replace H := ite_f_ H
     obtain ⟨y440, hy440⟩ : ∃ y_ : List (S57), y_ = (([] : List (S57))) := ⟨_, rfl⟩
     replace H : (impl_StepOk.l0 kj7 l0 a1 y440 ((rd_T80 l0 a1).f2) (((rd_T80 l0 a1).f2).length : Int) 0 ((rd_T80 l0 a1).f0.f0) ((rd_T80 l0 a1).f0.f1.f0) ((rd_T80 l0 a1).f0.f1.f1) ((rd_T80 l0 a1).f0.f2) ((rd_T80 l0 a1).f0.f3.f0) ((rd_T80 l0 a1).f0.f3.f1) ((rd_T80 l0 a1).f0.f4.f0) ((rd_T80 l0 a1).f0.f4.f1) ((rd_T80 l0 a1).f0.f5) ((rd_T80 l0 a1).f0.f6) ((rd_T80 l0 a1).f1.f0.f0) ((rd_T80 l0 a1).f1.f0.f1) ((rd_T80 l0 a1).f1.f1) ((rd_T80 l0 a1).f2)) = some r := rh_ hy440 H
     have Ny440 := aa_ hy440
     clear hy440
     have H' := aa_ H
     clear H
     go_wp2_with (first | ((with_reducible refine gD_ 35 rfl ?_); refine Kd.R_lit k57 _ 57 ?hg (N := 35) ?hd (xs := ([] : List (S57))) (inner := []) (ok := fun _ => True) (okp := fun _ => True) ?hr ?hp (fun _ hk => hk) trivial (Below.refl _ _) (Nat.le_refl _) (by simp) ?_; (case hd => rfl); (case hg => rfl); (case hr => first | (go_simp; done) | (go_simp; rfl)); (case hp => exact (Reps.none _ _)); intro v441 w19 ho20 hb hg_ hnew_; clear hg_ hnew_; (first | rw [← Ny440.out] at ho20 | (simp only [Int.reduceToNat] at ho20; rw [← Ny440.out] at ho20)); have HO442 := aa_ (Kd.R_lower ho20 bls_); replace BK438 := bkb_ BK438 hb; replace HB := hbs_ hb; clear hb ho20; obtain ⟨hcz21, hfz21⟩ := bcf_ BK438))
     repeat (go_quiet (first | ((with_reducible refine gD_ 35 rfl ?_); refine Kd.R_lit k57 _ 57 ?hg (N := 35) ?hd (xs := ([] : List (S57))) (inner := []) (ok := fun _ => True) (okp := fun _ => True) ?hr ?hp (fun _ hk => hk) trivial (Below.refl _ _) (Nat.le_refl _) (by simp) ?_; (case hd => rfl); (case hg => rfl); (case hr => first | (go_simp; done) | (go_simp; rfl)); (case hp => exact (Reps.none _ _)); intro v441 w19 ho20 hb hg_ hnew_; clear hg_ hnew_; (first | rw [← Ny440.out] at ho20 | (simp only [Int.reduceToNat] at ho20; rw [← Ny440.out] at ho20)); have HO442 := aa_ (Kd.R_lower ho20 bls_); replace BK438 := bkb_ BK438 hb; replace HB := hbs_ hb; clear hb ho20; obtain ⟨hcz21, hfz21⟩ := bcf_ BK438)); try go_wp2_with (first | ((with_reducible refine gD_ 35 rfl ?_); refine Kd.R_lit k57 _ 57 ?hg (N := 35) ?hd (xs := ([] : List (S57))) (inner := []) (ok := fun _ => True) (okp := fun _ => True) ?hr ?hp (fun _ hk => hk) trivial (Below.refl _ _) (Nat.le_refl _) (by simp) ?_; (case hd => rfl); (case hg => rfl); (case hr => first | (go_simp; done) | (go_simp; rfl)); (case hp => exact (Reps.none _ _)); intro v441 w19 ho20 hb hg_ hnew_; clear hg_ hnew_; (first | rw [← Ny440.out] at ho20 | (simp only [Int.reduceToNat] at ho20; rw [← Ny440.out] at ho20)); have HO442 := aa_ (Kd.R_lower ho20 bls_); replace BK438 := bkb_ BK438 hb; replace HB := hbs_ hb; clear hb ho20; obtain ⟨hcz21, hfz21⟩ := bcf_ BK438)))
     go_loopg [6, 39] kj7 (fun kq v6 v39 w' => ∃ (x6_2 : List (S57)) (x39_2 : Int), v39 = .int .i64 x39_2 ∧ Aside0 (impl_StepOk.l0 kq l0 a1 x6_2 ((rd_T80 l0 a1).f2) (((rd_T80 l0 a1).f2).length : Int) x39_2 ((rd_T80 l0 a1).f0.f0) ((rd_T80 l0 a1).f0.f1.f0) ((rd_T80 l0 a1).f0.f1.f1) ((rd_T80 l0 a1).f0.f2) ((rd_T80 l0 a1).f0.f3.f0) ((rd_T80 l0 a1).f0.f3.f1) ((rd_T80 l0 a1).f0.f4.f0) ((rd_T80 l0 a1).f0.f4.f1) ((rd_T80 l0 a1).f0.f5) ((rd_T80 l0 a1).f0.f6) ((rd_T80 l0 a1).f1.f0.f0) ((rd_T80 l0 a1).f1.f0.f1) ((rd_T80 l0 a1).f1.f1) ((rd_T80 l0 a1).f2) = some r) ∧ Aside0 (kq ≤ kj7) ∧ Aside0 (Kd.R k57 57 w' w.heap.size (fun _ => True) v6 x6_2) ∧ Aside0 (w'.heap[gb438]? = some (.cells #[.int .i64 ((rd_T80 l0 a1).f0.f0), .int .i64 ((rd_T80 l0 a1).f0.f1.f0), .int .i64 ((rd_T80 l0 a1).f0.f1.f1), .int .i64 ((rd_T80 l0 a1).f0.f2), .int .i64 ((rd_T80 l0 a1).f0.f3.f0), .int .i64 ((rd_T80 l0 a1).f0.f3.f1), .int .i64 ((rd_T80 l0 a1).f0.f4.f0), .int .i64 ((rd_T80 l0 a1).f0.f4.f1), .int .i64 ((rd_T80 l0 a1).f0.f5), .int .i64 ((rd_T80 l0 a1).f0.f6), .int .i64 ((rd_T80 l0 a1).f1.f0.f0), .int .i64 ((rd_T80 l0 a1).f1.f0.f1), .int .i64 ((rd_T80 l0 a1).f1.f1), (.slice A437_13 ((rd_T80 l0 a1).f2).length c437_13)] 80 (0, 0))) ∧ Aside0 (Below w.heap.size w w'))
     case atStart => exact ⟨(y440), (0), rf_, H', ⟨Nat.le_refl _⟩, ⟨rr_ HO442⟩, ⟨bk_ BK438⟩, ⟨bl_⟩⟩
     case round =>
      clear H'
      try clear c1
      try clear p2
      try clear c4
      try clear p4
      try clear q4
      try clear hx4
      try clear c5
      try clear c6
      try clear c6b0
      try clear p6
      try clear c7
      try clear c7b0
      try clear c12
      try clear c18
      try clear hcz10
      try clear hcz13
      try clear hcz15
      try clear hcz16
      try clear hcz21
      try clear hfz10
      try clear hfz13
      try clear hfz15
      try clear hfz16
      try clear hfz21
      try clear hx437_0
      try clear hx437_1
      try clear hx437_10
      try clear hx437_11
      try clear hx437_12
      try clear hx437_13
      try clear hx437_2
      try clear hx437_3
      try clear hx437_4
      try clear hx437_5
      try clear hx437_6
      try clear hx437_7
      try clear hx437_8
      try clear hx437_9
      try clear p2
      try clear p4
      try clear p437
      try clear p6
      try clear q4
      try clear q437
      obtain ⟨x6_2, x39_2, rfl, HA, HK2, HO_6, BK438, HB⟩ := hrel
      cases gk with
      | zero => exact absurd HA.out (by simp [impl_StepOk.l0])
      | succ k2 =>
       have H := HA.out
       clear HA
       simp only [impl_StepOk.l0] at H
       by_cases c22 : x39_2 < (((rd_T80 l0 a1).f2).length : Int)
       ·rw [if_pos c22] at H
        have c22b0 : decide (x39_2 < (((rd_T80 l0 a1).f2).length : Int)) = true := decide_eq_true c22
        clear c22
        obtain ⟨c23b0, H⟩ := ifd_ H
        obtain ⟨c24b0, H⟩ := ifd_ H
        obtain ⟨⟨t444, t445, t446, t447⟩, A25, H⟩ := bindE_ H
        replace H : (if t447 = true then (if x6_2.length < 5864062014805 then (impl_StepOk.l0 k2 l0 a1 (x6_2 ++ [(⟨(⟨t444, t445⟩ : S55), t446⟩ : S57)]) ((rd_T80 l0 a1).f2) (((rd_T80 l0 a1).f2).length : Int) (wrap64 (x39_2 + 1)) ((rd_T80 l0 a1).f0.f0) ((rd_T80 l0 a1).f0.f1.f0) ((rd_T80 l0 a1).f0.f1.f1) ((rd_T80 l0 a1).f0.f2) ((rd_T80 l0 a1).f0.f3.f0) ((rd_T80 l0 a1).f0.f3.f1) ((rd_T80 l0 a1).f0.f4.f0) ((rd_T80 l0 a1).f0.f4.f1) ((rd_T80 l0 a1).f0.f5) ((rd_T80 l0 a1).f0.f6) ((rd_T80 l0 a1).f1.f0.f0) ((rd_T80 l0 a1).f1.f0.f1) ((rd_T80 l0 a1).f1.f1) ((rd_T80 l0 a1).f2)) else (none)) else (some false)) = some r := H
        have HC26 := aa_ H
        clear H
        have p443 : 0 ≤ (x39_2 : Int) := od_
        have q443 : x39_2 < (((rd_T80 l0 a1).f2).length : Int) := od_
        obtain ⟨ad443, e443, hx443_0⟩ := Kd.at_int (Kd.C_below HR437_13.out HB.out) x39_2 p443 q443
        cases e443
        replace p443 := eq_true p443
        replace q443 := eq_true q443
        go_upto_if 51 with (first | (go_at_call 70; (with_reducible refine (impl_shown.calls _ _ l0 a1 (rd ((rd_T80 l0 a1).f2) x39_2) t444 t445 t446 t447 _ ?side1 ?side2 A25.out).mono ?_); (case side1 => repeat (first | exact (Kd.C_below HR0.out HB.out) | (with_reducible refine Kd.C_alloc ?_ _) | (with_reducible refine Kd.C_drewN ?_ _) | (with_reducible refine Kd.C_drew ?_))); (case side2 => exact HC0.out); rintro e w27 ⟨rfl, hb⟩; replace HO_6 := hob_ HO_6 hb; replace BK438 := bkb_ BK438 hb; replace HB := hbs_ hb; clear hb) | ((with_reducible refine gD_ 9 rfl ?_); refine bx_ (N := 9) (cs := #[.int .i64 0, .int .i64 0, .int .i64 0]) (t := 57) ?_; intro gb448 hg w28 hbox hb; replace HO_6 := aa_ (Kd.R_below (Kd.R_elderB (rr_ HO_6) gb448 (Nat.le_of_eq hg.symm)) hb); have BK448 := aa_ (hbox); have GW448 := gs_ hg; have GE448 := gs_ hg; replace HB := hbs_ hb; have NB438_448 := nl_ hg BK438; have NB448_438 := nr_ hg BK438; replace BK438 := bkb_ BK438 hb; clear hb hbox hg; have hnb29 := NB448_438.out; have hnc29 := NB438_448.out; obtain ⟨hcz30, hfz30⟩ := bcf_ BK448))
        repeat (go_quiet (first | (go_at_call 70; (with_reducible refine (impl_shown.calls _ _ l0 a1 (rd ((rd_T80 l0 a1).f2) x39_2) t444 t445 t446 t447 _ ?side1 ?side2 A25.out).mono ?_); (case side1 => repeat (first | exact (Kd.C_below HR0.out HB.out) | (with_reducible refine Kd.C_alloc ?_ _) | (with_reducible refine Kd.C_drewN ?_ _) | (with_reducible refine Kd.C_drew ?_))); (case side2 => exact HC0.out); rintro e w27 ⟨rfl, hb⟩; replace HO_6 := hob_ HO_6 hb; replace BK438 := bkb_ BK438 hb; replace HB := hbs_ hb; clear hb) | ((with_reducible refine gD_ 9 rfl ?_); refine bx_ (N := 9) (cs := #[.int .i64 0, .int .i64 0, .int .i64 0]) (t := 57) ?_; intro gb448 hg w28 hbox hb; replace HO_6 := aa_ (Kd.R_below (Kd.R_elderB (rr_ HO_6) gb448 (Nat.le_of_eq hg.symm)) hb); have BK448 := aa_ (hbox); have GW448 := gs_ hg; have GE448 := gs_ hg; replace HB := hbs_ hb; have NB438_448 := nl_ hg BK438; have NB448_438 := nr_ hg BK438; replace BK438 := bkb_ BK438 hb; clear hb hbox hg; have hnb29 := NB448_438.out; have hnc29 := NB438_448.out; obtain ⟨hcz30, hfz30⟩ := bcf_ BK448)); go_upto_if 51 with (first | (go_at_call 70; (with_reducible refine (impl_shown.calls _ _ l0 a1 (rd ((rd_T80 l0 a1).f2) x39_2) t444 t445 t446 t447 _ ?side1 ?side2 A25.out).mono ?_); (case side1 => repeat (first | exact (Kd.C_below HR0.out HB.out) | (with_reducible refine Kd.C_alloc ?_ _) | (with_reducible refine Kd.C_drewN ?_ _) | (with_reducible refine Kd.C_drew ?_))); (case side2 => exact HC0.out); rintro e w27 ⟨rfl, hb⟩; replace HO_6 := hob_ HO_6 hb; replace BK438 := bkb_ BK438 hb; replace HB := hbs_ hb; clear hb) | ((with_reducible refine gD_ 9 rfl ?_); refine bx_ (N := 9) (cs := #[.int .i64 0, .int .i64 0, .int .i64 0]) (t := 57) ?_; intro gb448 hg w28 hbox hb; replace HO_6 := aa_ (Kd.R_below (Kd.R_elderB (rr_ HO_6) gb448 (Nat.le_of_eq hg.symm)) hb); have BK448 := aa_ (hbox); have GW448 := gs_ hg; have GE448 := gs_ hg; replace HB := hbs_ hb; have NB438_448 := nl_ hg BK438; have NB448_438 := nr_ hg BK438; replace BK438 := bkb_ BK438 hb; clear hb hbox hg; have hnb29 := NB448_438.out; have hnc29 := NB438_448.out; obtain ⟨hcz30, hfz30⟩ := bcf_ BK448)))
        have n0_ : Aside0 (Kd.R k57 57 (((w28.setCell ⟨gb448, 0, none⟩ (.int .i64 t444)).setCell ⟨gb448, 1, none⟩ (.int .i64 t445)).setCell ⟨gb448, 2, none⟩ (.int .i64 t446)) w.heap.size (fun k_ => k_ ≠ gb448) u6 x6_2) := ⟨by (with_reducible repeat (first | apply Kd.R_alloc | apply Kd.R_drewN | apply Kd.R_drew)); exact Kd.R_mono (fr3_ (Kd.R_mono HO_6.out (fun k_ hk => (⟨hk, hk.2⟩ : _ ∧ k_ ≠ gb448))) (fun _ hk => hk.2)) (fun _ hk => hk.1.2)⟩
        have n1_ : Aside0 ((((w28.setCell ⟨gb448, 0, none⟩ (.int .i64 t444)).setCell ⟨gb448, 1, none⟩ (.int .i64 t445)).setCell ⟨gb448, 2, none⟩ (.int .i64 t446)).heap[gb438]? = some (.cells #[.int .i64 ((rd_T80 l0 a1).f0.f0), .int .i64 ((rd_T80 l0 a1).f0.f1.f0), .int .i64 ((rd_T80 l0 a1).f0.f1.f1), .int .i64 ((rd_T80 l0 a1).f0.f2), .int .i64 ((rd_T80 l0 a1).f0.f3.f0), .int .i64 ((rd_T80 l0 a1).f0.f3.f1), .int .i64 ((rd_T80 l0 a1).f0.f4.f0), .int .i64 ((rd_T80 l0 a1).f0.f4.f1), .int .i64 ((rd_T80 l0 a1).f0.f5), .int .i64 ((rd_T80 l0 a1).f0.f6), .int .i64 ((rd_T80 l0 a1).f1.f0.f0), .int .i64 ((rd_T80 l0 a1).f1.f0.f1), .int .i64 ((rd_T80 l0 a1).f1.f1), .slice (some ad443) ((rd_T80 l0 a1).f2).length c437_13] 80 (0, 0))) := ⟨bk_ BK438⟩
        have n2_ : Aside0 ((((w28.setCell ⟨gb448, 0, none⟩ (.int .i64 t444)).setCell ⟨gb448, 1, none⟩ (.int .i64 t445)).setCell ⟨gb448, 2, none⟩ (.int .i64 t446)).heap[gb448]? = some (.cells #[.int .i64 t444, .int .i64 t445, .int .i64 t446] 57 (0, 0))) := ⟨bk_ BK448⟩
        have n3_ : Aside0 (Below w.heap.size w (((w28.setCell ⟨gb448, 0, none⟩ (.int .i64 t444)).setCell ⟨gb448, 1, none⟩ (.int .i64 t445)).setCell ⟨gb448, 2, none⟩ (.int .i64 t446))) := ⟨bl_⟩
        (try clear HO_6)
        (try clear BK438)
        (try clear BK448)
        (try clear HB)
        generalize (((w28.setCell ⟨gb448, 0, none⟩ (.int .i64 t444)).setCell ⟨gb448, 1, none⟩ (.int .i64 t445)).setCell ⟨gb448, 2, none⟩ (.int .i64 t446)) = w31 at n0_ n1_ n2_ n3_ ⊢
        have HO_6 := n0_
        have BK438 := n1_
        have BK448 := n2_
        have HB := n3_
        clear n0_ n1_ n2_ n3_
        (try simp only [Act.put, List.setIfInBounds_toArray, List.set_cons_zero, List.set_cons_succ])
        have H := HC26.out
        clear HC26
        by_cases c32 : t447 = true
        ·subst c32
         replace H := ite_t_ H
         obtain ⟨c33, H⟩ := ifn_ H
         have LMc33 := aa_ c33
         clear c33
         obtain ⟨y449, hy449⟩ : ∃ y_ : List (S57), y_ = (x6_2 ++ [(⟨(⟨t444, t445⟩ : S55), t446⟩ : S57)]) := ⟨_, rfl⟩
         replace H : (impl_StepOk.l0 k2 l0 a1 y449 ((rd_T80 l0 a1).f2) (((rd_T80 l0 a1).f2).length : Int) (wrap64 (x39_2 + 1)) ((rd_T80 l0 a1).f0.f0) ((rd_T80 l0 a1).f0.f1.f0) ((rd_T80 l0 a1).f0.f1.f1) ((rd_T80 l0 a1).f0.f2) ((rd_T80 l0 a1).f0.f3.f0) ((rd_T80 l0 a1).f0.f3.f1) ((rd_T80 l0 a1).f0.f4.f0) ((rd_T80 l0 a1).f0.f4.f1) ((rd_T80 l0 a1).f0.f5) ((rd_T80 l0 a1).f0.f6) ((rd_T80 l0 a1).f1.f0.f0) ((rd_T80 l0 a1).f1.f0.f1) ((rd_T80 l0 a1).f1.f1) ((rd_T80 l0 a1).f2)) = some r := rh_ hy449 H
         have Ny449 := aa_ hy449
         clear hy449
         have H' := aa_ H
         clear H
         have hnb34 := NB448_438.out
         have hnc34 := NB438_448.out
         have hcz35 := blk_cell BK448.out
         have hfz35 := blk_frozen BK448.out
         go_wp2_with (first | ((with_reducible refine gate_builtin (b := .append) (xs := #[.tmp 52, .tmp 54]) rfl ?_); at_builtin; refine Kd.R_append k57 (w0 := w) w.heap.size rfl (.tmp 52) (.tmp 54) 38 57 (.agg #[(.int .i64 0), (.int .i64 0), (.int .i64 0)]) 24 rfl Try.underlying38 info57 rfl (by decide) (by omega) u6 x6_2 (⟨(⟨t444, t445⟩ : S55), t446⟩ : S57) [.int .i64 t444, .int .i64 t445, .int .i64 t446] (fun k_ => k_ ≠ gb448) (fun _ => False) rfl rfl ?aP (fun _ hk => hk.elim) ?aF ?aO ?aB ?aS ?aL ?_; (case aP => exact k57_mkM _ _ _ (⟨(⟨t444, t445⟩ : S55), t446⟩ : S57)); (case aB => exact bl_); (case aF => exact (fun k_ hk => Kd.freshB (g := gb448) (o := .cells #[.int .i64 t444, .int .i64 t445, .int .i64 t446] 57 (0, 0)) (bk_ BK448) k_ hk)); (case aO => exact (rr_ HO_6)); (case aS => exact bls_); (case aL => have := LMc33.out; omega); intro v450 w36 ho hb hg hat; rw [← Ny449.out] at ho; replace BK438 := aa_ (blk_grown (g := gb438) (o := .cells #[.int .i64 ((rd_T80 l0 a1).f0.f0), .int .i64 ((rd_T80 l0 a1).f0.f1.f0), .int .i64 ((rd_T80 l0 a1).f0.f1.f1), .int .i64 ((rd_T80 l0 a1).f0.f2), .int .i64 ((rd_T80 l0 a1).f0.f3.f0), .int .i64 ((rd_T80 l0 a1).f0.f3.f1), .int .i64 ((rd_T80 l0 a1).f0.f4.f0), .int .i64 ((rd_T80 l0 a1).f0.f4.f1), .int .i64 ((rd_T80 l0 a1).f0.f5), .int .i64 ((rd_T80 l0 a1).f0.f6), .int .i64 ((rd_T80 l0 a1).f1.f0.f0), .int .i64 ((rd_T80 l0 a1).f1.f0.f1), .int .i64 ((rd_T80 l0 a1).f1.f1), .slice (some ad443) ((rd_T80 l0 a1).f2).length c437_13] 80 (0, 0)) (bk_ BK438) hg (Kd.R_ne HO_6.out BK438.out (by decide))); replace BK448 := aa_ (blk_grown (g := gb448) (o := .cells #[.int .i64 t444, .int .i64 t445, .int .i64 t446] 57 (0, 0)) (bk_ BK448) hg (Kd.R_away HO_6.out (fun _ hk => hk))); replace HB := aa_ (hb); have HO451 := aa_ (ho); clear HO_6; clear ho hb hg hat))
         repeat (go_quiet (first | ((with_reducible refine gate_builtin (b := .append) (xs := #[.tmp 52, .tmp 54]) rfl ?_); at_builtin; refine Kd.R_append k57 (w0 := w) w.heap.size rfl (.tmp 52) (.tmp 54) 38 57 (.agg #[(.int .i64 0), (.int .i64 0), (.int .i64 0)]) 24 rfl Try.underlying38 info57 rfl (by decide) (by omega) u6 x6_2 (⟨(⟨t444, t445⟩ : S55), t446⟩ : S57) [.int .i64 t444, .int .i64 t445, .int .i64 t446] (fun k_ => k_ ≠ gb448) (fun _ => False) rfl rfl ?aP (fun _ hk => hk.elim) ?aF ?aO ?aB ?aS ?aL ?_; (case aP => exact k57_mkM _ _ _ (⟨(⟨t444, t445⟩ : S55), t446⟩ : S57)); (case aB => exact bl_); (case aF => exact (fun k_ hk => Kd.freshB (g := gb448) (o := .cells #[.int .i64 t444, .int .i64 t445, .int .i64 t446] 57 (0, 0)) (bk_ BK448) k_ hk)); (case aO => exact (rr_ HO_6)); (case aS => exact bls_); (case aL => have := LMc33.out; omega); intro v450 w36 ho hb hg hat; rw [← Ny449.out] at ho; replace BK438 := aa_ (blk_grown (g := gb438) (o := .cells #[.int .i64 ((rd_T80 l0 a1).f0.f0), .int .i64 ((rd_T80 l0 a1).f0.f1.f0), .int .i64 ((rd_T80 l0 a1).f0.f1.f1), .int .i64 ((rd_T80 l0 a1).f0.f2), .int .i64 ((rd_T80 l0 a1).f0.f3.f0), .int .i64 ((rd_T80 l0 a1).f0.f3.f1), .int .i64 ((rd_T80 l0 a1).f0.f4.f0), .int .i64 ((rd_T80 l0 a1).f0.f4.f1), .int .i64 ((rd_T80 l0 a1).f0.f5), .int .i64 ((rd_T80 l0 a1).f0.f6), .int .i64 ((rd_T80 l0 a1).f1.f0.f0), .int .i64 ((rd_T80 l0 a1).f1.f0.f1), .int .i64 ((rd_T80 l0 a1).f1.f1), .slice (some ad443) ((rd_T80 l0 a1).f2).length c437_13] 80 (0, 0)) (bk_ BK438) hg (Kd.R_ne HO_6.out BK438.out (by decide))); replace BK448 := aa_ (blk_grown (g := gb448) (o := .cells #[.int .i64 t444, .int .i64 t445, .int .i64 t446] 57 (0, 0)) (bk_ BK448) hg (Kd.R_away HO_6.out (fun _ hk => hk))); replace HB := aa_ (hb); have HO451 := aa_ (ho); clear HO_6; clear ho hb hg hat)); try go_wp2_with (first | ((with_reducible refine gate_builtin (b := .append) (xs := #[.tmp 52, .tmp 54]) rfl ?_); at_builtin; refine Kd.R_append k57 (w0 := w) w.heap.size rfl (.tmp 52) (.tmp 54) 38 57 (.agg #[(.int .i64 0), (.int .i64 0), (.int .i64 0)]) 24 rfl Try.underlying38 info57 rfl (by decide) (by omega) u6 x6_2 (⟨(⟨t444, t445⟩ : S55), t446⟩ : S57) [.int .i64 t444, .int .i64 t445, .int .i64 t446] (fun k_ => k_ ≠ gb448) (fun _ => False) rfl rfl ?aP (fun _ hk => hk.elim) ?aF ?aO ?aB ?aS ?aL ?_; (case aP => exact k57_mkM _ _ _ (⟨(⟨t444, t445⟩ : S55), t446⟩ : S57)); (case aB => exact bl_); (case aF => exact (fun k_ hk => Kd.freshB (g := gb448) (o := .cells #[.int .i64 t444, .int .i64 t445, .int .i64 t446] 57 (0, 0)) (bk_ BK448) k_ hk)); (case aO => exact (rr_ HO_6)); (case aS => exact bls_); (case aL => have := LMc33.out; omega); intro v450 w36 ho hb hg hat; rw [← Ny449.out] at ho; replace BK438 := aa_ (blk_grown (g := gb438) (o := .cells #[.int .i64 ((rd_T80 l0 a1).f0.f0), .int .i64 ((rd_T80 l0 a1).f0.f1.f0), .int .i64 ((rd_T80 l0 a1).f0.f1.f1), .int .i64 ((rd_T80 l0 a1).f0.f2), .int .i64 ((rd_T80 l0 a1).f0.f3.f0), .int .i64 ((rd_T80 l0 a1).f0.f3.f1), .int .i64 ((rd_T80 l0 a1).f0.f4.f0), .int .i64 ((rd_T80 l0 a1).f0.f4.f1), .int .i64 ((rd_T80 l0 a1).f0.f5), .int .i64 ((rd_T80 l0 a1).f0.f6), .int .i64 ((rd_T80 l0 a1).f1.f0.f0), .int .i64 ((rd_T80 l0 a1).f1.f0.f1), .int .i64 ((rd_T80 l0 a1).f1.f1), .slice (some ad443) ((rd_T80 l0 a1).f2).length c437_13] 80 (0, 0)) (bk_ BK438) hg (Kd.R_ne HO_6.out BK438.out (by decide))); replace BK448 := aa_ (blk_grown (g := gb448) (o := .cells #[.int .i64 t444, .int .i64 t445, .int .i64 t446] 57 (0, 0)) (bk_ BK448) hg (Kd.R_away HO_6.out (fun _ hk => hk))); replace HB := aa_ (hb); have HO451 := aa_ (ho); clear HO_6; clear ho hb hg hat)))
         go_roundg k2
         case measure => have := HJ7.out; have := HK2.out; omega
         case rel => exact ⟨(y449), (wrap64 (x39_2 + 1)), rf_, H', ⟨by have := HJ7.out; have := HK2.out; omega⟩, ⟨by (with_reducible repeat (first | apply Kd.R_alloc | apply Kd.R_drewN | apply Kd.R_drew)); exact Kd.R_mono HO451.out (fun _ hk => trivial)⟩, ⟨bk_ BK438⟩, ⟨bl_⟩⟩
        ·replace c32 := Bool.eq_false_iff.mpr c32
         subst c32
         replace H := ite_f_ H
         obtain rfl := Option.some.inj H
         go_wp2
         repeat (go_quiet (fail); try go_wp2)
         go_ret
         exact ⟨eq_, bl_⟩
       ·rw [if_neg c22] at H
        have c22b0 : decide (x39_2 < (((rd_T80 l0 a1).f2).length : Int)) = false := decide_eq_false c22
        clear c22
        by_cases c37 : ((rd_T80 l0 a1).f0.f0) = 1
        ·rw [if_pos c37] at H
         have c37b0 : (((rd_T80 l0 a1).f0.f0) == 1) = true := beq_iff_eq.mpr c37
         have c37b1 : (((rd_T80 l0 a1).f0.f0) != 1) = false := bne_eq_false_iff_eq.mpr c37
         clear c37
         by_cases c38 : (x6_2.length : Int) = 0
         ·rw [if_pos c38] at H
          have c38b0 : ((x6_2.length : Int) == 0) = true := beq_iff_eq.mpr c38
          have c38b1 : ((x6_2.length : Int) != 0) = false := bne_eq_false_iff_eq.mpr c38
          clear c38
          obtain rfl := Option.some.inj H
          have hcz39 := blk_cell BK438.out
          have hfz39 := blk_frozen BK438.out
          obtain ⟨Ao40, co40, eo40⟩ := Kd.R_slice HO_6.out
          subst eo40
          go_wp2
          repeat (go_quiet (fail); try go_wp2)
          go_ret
          exact ⟨eq_, bl_⟩
         ·rw [if_neg c38] at H
          have c38b0 : ((x6_2.length : Int) == 0) = false := beq_eq_false_iff_ne.mpr c38
          have c38b1 : ((x6_2.length : Int) != 0) = true := bne_iff_ne.mpr c38
          have c38b2 : ¬ (x6_2 = []) := fun h_ => c38 (by rw [h_]; rfl)
          obtain rfl := Option.some.inj H
          have hcz41 := blk_cell BK438.out
          have hfz41 := blk_frozen BK438.out
          obtain ⟨Ao42, co42, eo42⟩ := Kd.R_slice HO_6.out
          subst eo42
          go_wp2
          repeat (go_quiet (fail); try go_wp2)
          go_ret
          exact ⟨eq_, bl_⟩
        ·rw [if_neg c37] at H
         have c37b0 : (((rd_T80 l0 a1).f0.f0) == 1) = false := beq_eq_false_iff_ne.mpr c37
         have c37b1 : (((rd_T80 l0 a1).f0.f0) != 1) = true := bne_iff_ne.mpr c37
         by_cases c43 : ((rd_T80 l0 a1).f0.f0) = 2
         ·rw [if_pos c43] at H
          have c43b0 : (((rd_T80 l0 a1).f0.f0) == 2) = true := beq_iff_eq.mpr c43
          have c43b1 : (((rd_T80 l0 a1).f0.f0) != 2) = false := bne_eq_false_iff_eq.mpr c43
          clear c43
          by_cases c44 : (x6_2.length : Int) = 1
          ·rw [if_pos c44] at H
           have c44b0 : ((x6_2.length : Int) == 1) = true := beq_iff_eq.mpr c44
           have c44b1 : ((x6_2.length : Int) != 1) = false := bne_eq_false_iff_eq.mpr c44
           clear c44
           obtain ⟨c45, H⟩ := ifn_ H
           have c45b0 : decide (0 < (x6_2.length : Int)) = true := decide_eq_true c45
           have c45b1 : decide (0 < x6_2.length) = true := decide_eq_true (by omega)
           clear c45
           obtain rfl := Option.some.inj H
           have hcz46 := blk_cell BK438.out
           have hfz46 := blk_frozen BK438.out
           obtain ⟨Ao47, co47, eo47⟩ := Kd.R_slice HO_6.out
           subst eo47
           have p452 : 0 ≤ (0 : Int) := (by omega)
           have q452 : 0 < (x6_2.length : Int) := od_
           obtain ⟨ad452, e452, hx452_0, hx452_1, hx452_2⟩ := at_T57 (Kd.R_reads' HO_6.out).2.2 0 p452 q452
           cases e452
           have qi452 : (0 < x6_2.length) = True := eq_true (by omega)
           (try rw [show ((0 : Int)).toNat = 0 from rfl] at hx452_0)
           (try rw [show 0 * 3 = 0 from rfl] at hx452_0)
           (try rw [Addr.add_zero'] at hx452_0)
           (try rw [show ((0 : Int)).toNat = 0 from rfl] at hx452_1)
           (try rw [show 0 * 3 = 0 from rfl] at hx452_1)
           (try rw [Addr.add_zero'] at hx452_1)
           (try rw [show ((0 : Int)).toNat = 0 from rfl] at hx452_2)
           (try rw [show 0 * 3 = 0 from rfl] at hx452_2)
           (try rw [Addr.add_zero'] at hx452_2)
           replace p452 := eq_true p452
           replace q452 := eq_true q452
           go_wp2
           repeat (go_quiet (fail); try go_wp2)
           go_ret
           exact ⟨eq_, bl_⟩
          ·rw [if_neg c44] at H
           have c44b0 : ((x6_2.length : Int) == 1) = false := beq_eq_false_iff_ne.mpr c44
           have c44b1 : ((x6_2.length : Int) != 1) = true := bne_iff_ne.mpr c44
           obtain rfl := Option.some.inj H
           have hcz48 := blk_cell BK438.out
           have hfz48 := blk_frozen BK438.out
           obtain ⟨Ao49, co49, eo49⟩ := Kd.R_slice HO_6.out
           subst eo49
           go_wp2
           repeat (go_quiet (fail); try go_wp2)
           go_ret
           exact ⟨eq_, bl_⟩
         ·rw [if_neg c43] at H
          have c43b0 : (((rd_T80 l0 a1).f0.f0) == 2) = false := beq_eq_false_iff_ne.mpr c43
          have c43b1 : (((rd_T80 l0 a1).f0.f0) != 2) = true := bne_iff_ne.mpr c43
          by_cases c50 : ((rd_T80 l0 a1).f0.f0) = 3
          ·rw [if_pos c50] at H
           have c50b0 : (((rd_T80 l0 a1).f0.f0) == 3) = true := beq_iff_eq.mpr c50
           have c50b1 : (((rd_T80 l0 a1).f0.f0) != 3) = false := bne_eq_false_iff_eq.mpr c50
           clear c50
           by_cases c51 : (x6_2.length : Int) = 2
           ·rw [if_pos c51] at H
            have c51b0 : ((x6_2.length : Int) == 2) = true := beq_iff_eq.mpr c51
            have c51b1 : ((x6_2.length : Int) != 2) = false := bne_eq_false_iff_eq.mpr c51
            clear c51
            obtain ⟨c52, H⟩ := ifn_ H
            have c52b0 : decide (0 < (x6_2.length : Int)) = true := decide_eq_true c52
            have c52b1 : decide (0 < x6_2.length) = true := decide_eq_true (by omega)
            clear c52
            by_cases c53 : (((rd_T57 x6_2 0).f0.f0) == ((rd_T80 l0 a1).f0.f3.f0) && (((rd_T57 x6_2 0).f0.f1) == ((rd_T80 l0 a1).f0.f3.f1))) = true
            ·rw [if_pos c53] at H
             have c53b0 : (((rd_T57 x6_2 0).f0.f0) == ((rd_T80 l0 a1).f0.f3.f0) && (((rd_T57 x6_2 0).f0.f1) == ((rd_T80 l0 a1).f0.f3.f1))) = true := c53
             (try (have c53b1 : decide (((rd_T57 x6_2 0).f0.f0) = ((rd_T80 l0 a1).f0.f3.f0) && (((rd_T57 x6_2 0).f0.f1) == ((rd_T80 l0 a1).f0.f3.f1))) = true := by simpa using c53))
             (try (have c53b2 : (((rd_T57 x6_2 0).f0.f0) == ((rd_T80 l0 a1).f0.f3.f0) && (((rd_T57 x6_2 0).f0.f1) == ((rd_T80 l0 a1).f0.f3.f1))) = true := by simpa using c53))
             clear c53
             obtain ⟨c54, H⟩ := ifn_ H
             have c54b0 : decide (1 < (x6_2.length : Int)) = true := decide_eq_true c54
             have c54b1 : decide (1 < x6_2.length) = true := decide_eq_true (by omega)
             clear c54
             obtain rfl := Option.some.inj H
             have hcz55 := blk_cell BK438.out
             have hfz55 := blk_frozen BK438.out
             obtain ⟨Ao56, co56, eo56⟩ := Kd.R_slice HO_6.out
             subst eo56
             have p453 : 0 ≤ (0 : Int) := (by omega)
             have q453 : 0 < (x6_2.length : Int) := od_
             obtain ⟨ad453, e453, hx453_0, hx453_1, hx453_2⟩ := at_T57 (Kd.R_reads' HO_6.out).2.2 0 p453 q453
             cases e453
             have qi453 : (0 < x6_2.length) = True := eq_true (by omega)
             (try rw [show ((0 : Int)).toNat = 0 from rfl] at hx453_0)
             (try rw [show 0 * 3 = 0 from rfl] at hx453_0)
             (try rw [Addr.add_zero'] at hx453_0)
             (try rw [show ((0 : Int)).toNat = 0 from rfl] at hx453_1)
             (try rw [show 0 * 3 = 0 from rfl] at hx453_1)
             (try rw [Addr.add_zero'] at hx453_1)
             (try rw [show ((0 : Int)).toNat = 0 from rfl] at hx453_2)
             (try rw [show 0 * 3 = 0 from rfl] at hx453_2)
             (try rw [Addr.add_zero'] at hx453_2)
             replace p453 := eq_true p453
             replace q453 := eq_true q453
             have p454 : 0 ≤ (1 : Int) := (by omega)
             have q454 : 1 < (x6_2.length : Int) := od_
             obtain ⟨ad454, e454, hx454_0, hx454_1, hx454_2⟩ := at_T57 (Kd.R_reads' HO_6.out).2.2 1 p454 q454
             obtain rfl : ad453 = ad454 := (by injection e454)
             (try simp only [show (1 : Int).toNat = 1 from rfl, Nat.reduceMul, Nat.reduceEqDiff, Go.Addr.add, ↓reduceIte] at hx454_0)
             (try simp only [show (1 : Int).toNat = 1 from rfl, Nat.reduceMul, Nat.reduceEqDiff, Go.Addr.add, ↓reduceIte] at hx454_1)
             (try simp only [show (1 : Int).toNat = 1 from rfl, Nat.reduceMul, Nat.reduceEqDiff, Go.Addr.add, ↓reduceIte] at hx454_2)
             have qi454 : (1 < x6_2.length) = True := eq_true (by omega)
             (try rw [show ((1 : Int)).toNat = 1 from rfl] at hx454_0)
             (try rw [show 1 * 3 = 3 from rfl] at hx454_0)
             (try rw [show ((1 : Int)).toNat = 1 from rfl] at hx454_1)
             (try rw [show 1 * 3 = 3 from rfl] at hx454_1)
             (try rw [show ((1 : Int)).toNat = 1 from rfl] at hx454_2)
             (try rw [show 1 * 3 = 3 from rfl] at hx454_2)
             replace p454 := eq_true p454
             replace q454 := eq_true q454
             have p455 : 0 ≤ (0 : Int) := (by omega)
             have q455 : 0 < (x6_2.length : Int) := od_
             obtain ⟨ad455, e455, hx455_0, hx455_1, hx455_2⟩ := at_T57 (Kd.R_reads' HO_6.out).2.2 0 p455 q455
             obtain rfl : ad453 = ad455 := (by injection e455)
             have qi455 : (0 < x6_2.length) = True := eq_true (by omega)
             (try rw [show ((0 : Int)).toNat = 0 from rfl] at hx455_0)
             (try rw [show 0 * 3 = 0 from rfl] at hx455_0)
             (try rw [Addr.add_zero'] at hx455_0)
             (try rw [show ((0 : Int)).toNat = 0 from rfl] at hx455_1)
             (try rw [show 0 * 3 = 0 from rfl] at hx455_1)
             (try rw [Addr.add_zero'] at hx455_1)
             (try rw [show ((0 : Int)).toNat = 0 from rfl] at hx455_2)
             (try rw [show 0 * 3 = 0 from rfl] at hx455_2)
             (try rw [Addr.add_zero'] at hx455_2)
             replace p455 := eq_true p455
             replace q455 := eq_true q455
             go_wp2
             repeat (go_quiet (fail); try go_wp2)
             go_ret
             exact ⟨eq_, bl_⟩
            ·rw [if_neg c53] at H
             have c53b0 : (((rd_T57 x6_2 0).f0.f0) == ((rd_T80 l0 a1).f0.f3.f0) && (((rd_T57 x6_2 0).f0.f1) == ((rd_T80 l0 a1).f0.f3.f1))) = false := by simpa using c53
             (try (have c53b1 : decide (((rd_T57 x6_2 0).f0.f0) = ((rd_T80 l0 a1).f0.f3.f0) && (((rd_T57 x6_2 0).f0.f1) == ((rd_T80 l0 a1).f0.f3.f1))) = false := by simpa using c53))
             (try (have c53b2 : (((rd_T57 x6_2 0).f0.f0) == ((rd_T80 l0 a1).f0.f3.f0) && (((rd_T57 x6_2 0).f0.f1) == ((rd_T80 l0 a1).f0.f3.f1))) = false := by simpa using c53))
             (try (have c53b3 : ¬ (((rd_T57 x6_2 0).f0.f0) = ((rd_T80 l0 a1).f0.f3.f0) && (((rd_T57 x6_2 0).f0.f1) == ((rd_T80 l0 a1).f0.f3.f1))) := by simpa using c53))
             clear c53
             obtain rfl := Option.some.inj H
             have hcz57 := blk_cell BK438.out
             have hfz57 := blk_frozen BK438.out
             obtain ⟨Ao58, co58, eo58⟩ := Kd.R_slice HO_6.out
             subst eo58
             have p453 : 0 ≤ (0 : Int) := (by omega)
             have q453 : 0 < (x6_2.length : Int) := od_
             obtain ⟨ad453, e453, hx453_0, hx453_1, hx453_2⟩ := at_T57 (Kd.R_reads' HO_6.out).2.2 0 p453 q453
             cases e453
             have qi453 : (0 < x6_2.length) = True := eq_true (by omega)
             (try rw [show ((0 : Int)).toNat = 0 from rfl] at hx453_0)
             (try rw [show 0 * 3 = 0 from rfl] at hx453_0)
             (try rw [Addr.add_zero'] at hx453_0)
             (try rw [show ((0 : Int)).toNat = 0 from rfl] at hx453_1)
             (try rw [show 0 * 3 = 0 from rfl] at hx453_1)
             (try rw [Addr.add_zero'] at hx453_1)
             (try rw [show ((0 : Int)).toNat = 0 from rfl] at hx453_2)
             (try rw [show 0 * 3 = 0 from rfl] at hx453_2)
             (try rw [Addr.add_zero'] at hx453_2)
             replace p453 := eq_true p453
             replace q453 := eq_true q453
             go_wp2
             repeat (go_quiet (fail); try go_wp2)
             go_ret
             exact ⟨eq_, bl_⟩
           ·rw [if_neg c51] at H
            have c51b0 : ((x6_2.length : Int) == 2) = false := beq_eq_false_iff_ne.mpr c51
            have c51b1 : ((x6_2.length : Int) != 2) = true := bne_iff_ne.mpr c51
            obtain rfl := Option.some.inj H
            have hcz59 := blk_cell BK438.out
            have hfz59 := blk_frozen BK438.out
            obtain ⟨Ao60, co60, eo60⟩ := Kd.R_slice HO_6.out
            subst eo60
            go_wp2
            repeat (go_quiet (fail); try go_wp2)
            go_ret
            exact ⟨eq_, bl_⟩
          ·rw [if_neg c50] at H
           have c50b0 : (((rd_T80 l0 a1).f0.f0) == 3) = false := beq_eq_false_iff_ne.mpr c50
           have c50b1 : (((rd_T80 l0 a1).f0.f0) != 3) = true := bne_iff_ne.mpr c50
           by_cases c61 : (x6_2.length : Int) = 2
           ·rw [if_pos c61] at H
            have c61b0 : ((x6_2.length : Int) == 2) = true := beq_iff_eq.mpr c61
            have c61b1 : ((x6_2.length : Int) != 2) = false := bne_eq_false_iff_eq.mpr c61
            clear c61
            obtain ⟨c62, H⟩ := ifn_ H
            have c62b0 : decide (0 < (x6_2.length : Int)) = true := decide_eq_true c62
            have c62b1 : decide (0 < x6_2.length) = true := decide_eq_true (by omega)
            clear c62
            by_cases c63 : ((((rd_T57 x6_2 0).f0.f0) == ((rd_T80 l0 a1).f0.f3.f0) && (((rd_T57 x6_2 0).f0.f1) == ((rd_T80 l0 a1).f0.f3.f1))) && (((rd_T57 x6_2 0).f1) == ((rd_T80 l0 a1).f1.f1))) = true
            ·rw [if_pos c63] at H
             have c63b0 : ((((rd_T57 x6_2 0).f0.f0) == ((rd_T80 l0 a1).f0.f3.f0) && (((rd_T57 x6_2 0).f0.f1) == ((rd_T80 l0 a1).f0.f3.f1))) && (((rd_T57 x6_2 0).f1) == ((rd_T80 l0 a1).f1.f1))) = true := c63
             clear c63
             obtain ⟨c64, H⟩ := ifn_ H
             have c64b0 : decide (1 < (x6_2.length : Int)) = true := decide_eq_true c64
             have c64b1 : decide (1 < x6_2.length) = true := decide_eq_true (by omega)
             clear c64
             obtain rfl := Option.some.inj H
             have hcz65 := blk_cell BK438.out
             have hfz65 := blk_frozen BK438.out
             obtain ⟨Ao66, co66, eo66⟩ := Kd.R_slice HO_6.out
             subst eo66
             have p456 : 0 ≤ (0 : Int) := (by omega)
             have q456 : 0 < (x6_2.length : Int) := od_
             obtain ⟨ad456, e456, hx456_0, hx456_1, hx456_2⟩ := at_T57 (Kd.R_reads' HO_6.out).2.2 0 p456 q456
             cases e456
             have qi456 : (0 < x6_2.length) = True := eq_true (by omega)
             (try rw [show ((0 : Int)).toNat = 0 from rfl] at hx456_0)
             (try rw [show 0 * 3 = 0 from rfl] at hx456_0)
             (try rw [Addr.add_zero'] at hx456_0)
             (try rw [show ((0 : Int)).toNat = 0 from rfl] at hx456_1)
             (try rw [show 0 * 3 = 0 from rfl] at hx456_1)
             (try rw [Addr.add_zero'] at hx456_1)
             (try rw [show ((0 : Int)).toNat = 0 from rfl] at hx456_2)
             (try rw [show 0 * 3 = 0 from rfl] at hx456_2)
             (try rw [Addr.add_zero'] at hx456_2)
             replace p456 := eq_true p456
             replace q456 := eq_true q456
             have p457 : 0 ≤ (1 : Int) := (by omega)
             have q457 : 1 < (x6_2.length : Int) := od_
             obtain ⟨ad457, e457, hx457_0, hx457_1, hx457_2⟩ := at_T57 (Kd.R_reads' HO_6.out).2.2 1 p457 q457
             obtain rfl : ad456 = ad457 := (by injection e457)
             (try simp only [show (1 : Int).toNat = 1 from rfl, Nat.reduceMul, Nat.reduceEqDiff, Go.Addr.add, ↓reduceIte] at hx457_0)
             (try simp only [show (1 : Int).toNat = 1 from rfl, Nat.reduceMul, Nat.reduceEqDiff, Go.Addr.add, ↓reduceIte] at hx457_1)
             (try simp only [show (1 : Int).toNat = 1 from rfl, Nat.reduceMul, Nat.reduceEqDiff, Go.Addr.add, ↓reduceIte] at hx457_2)
             have qi457 : (1 < x6_2.length) = True := eq_true (by omega)
             (try rw [show ((1 : Int)).toNat = 1 from rfl] at hx457_0)
             (try rw [show 1 * 3 = 3 from rfl] at hx457_0)
             (try rw [show ((1 : Int)).toNat = 1 from rfl] at hx457_1)
             (try rw [show 1 * 3 = 3 from rfl] at hx457_1)
             (try rw [show ((1 : Int)).toNat = 1 from rfl] at hx457_2)
             (try rw [show 1 * 3 = 3 from rfl] at hx457_2)
             replace p457 := eq_true p457
             replace q457 := eq_true q457
             go_wp2
             repeat (go_quiet (fail); try go_wp2)
             go_ret
             exact ⟨eq_, bl_⟩
            ·rw [if_neg c63] at H
             have c63b0 : ((((rd_T57 x6_2 0).f0.f0) == ((rd_T80 l0 a1).f0.f3.f0) && (((rd_T57 x6_2 0).f0.f1) == ((rd_T80 l0 a1).f0.f3.f1))) && (((rd_T57 x6_2 0).f1) == ((rd_T80 l0 a1).f1.f1))) = false := by simpa using c63
             clear c63
             obtain rfl := Option.some.inj H
             have hcz67 := blk_cell BK438.out
             have hfz67 := blk_frozen BK438.out
             obtain ⟨Ao68, co68, eo68⟩ := Kd.R_slice HO_6.out
             subst eo68
             have p456 : 0 ≤ (0 : Int) := (by omega)
             have q456 : 0 < (x6_2.length : Int) := od_
             obtain ⟨ad456, e456, hx456_0, hx456_1, hx456_2⟩ := at_T57 (Kd.R_reads' HO_6.out).2.2 0 p456 q456
             cases e456
             have qi456 : (0 < x6_2.length) = True := eq_true (by omega)
             (try rw [show ((0 : Int)).toNat = 0 from rfl] at hx456_0)
             (try rw [show 0 * 3 = 0 from rfl] at hx456_0)
             (try rw [Addr.add_zero'] at hx456_0)
             (try rw [show ((0 : Int)).toNat = 0 from rfl] at hx456_1)
             (try rw [show 0 * 3 = 0 from rfl] at hx456_1)
             (try rw [Addr.add_zero'] at hx456_1)
             (try rw [show ((0 : Int)).toNat = 0 from rfl] at hx456_2)
             (try rw [show 0 * 3 = 0 from rfl] at hx456_2)
             (try rw [Addr.add_zero'] at hx456_2)
             replace p456 := eq_true p456
             replace q456 := eq_true q456
             go_wp2
             repeat (go_quiet (fail); try go_wp2)
             go_ret
             exact ⟨eq_, bl_⟩
           ·rw [if_neg c61] at H
            have c61b0 : ((x6_2.length : Int) == 2) = false := beq_eq_false_iff_ne.mpr c61
            have c61b1 : ((x6_2.length : Int) != 2) = true := bne_iff_ne.mpr c61
            obtain rfl := Option.some.inj H
            have hcz69 := blk_cell BK438.out
            have hfz69 := blk_frozen BK438.out
            obtain ⟨Ao70, co70, eo70⟩ := Kd.R_slice HO_6.out
            subst eo70
            go_wp2
            repeat (go_quiet (fail); try go_wp2)
            go_ret
            exact ⟨eq_, bl_⟩
 ·replace c5 := Bool.eq_false_iff.mpr c5
  subst c5
  replace H := ite_f_ H
  obtain rfl := Option.some.inj H
  go_wp2
  repeat (go_quiet (fail); try go_wp2)
  go_ret
  exact ⟨eq_, bl_⟩
def impl_ProofOk.l0 : Nat → List (S80) → Int → Int → Int → Int → Int → Option (Bool)
 | 0, _, _, _, _, _, _ => none
 | k + 1, x0, x2, x13, x14, x459000, x459001 => if x14 < x13 then ((impl_StepOk.f k x0 x14).bind fun t460 => (if t460 = true then (impl_ProofOk.l0 k x0 x2 x13 (wrap64 (x14 + 1)) x459000 x459001) else (some false))) else (if 0 ≤ (wrap64 ((x0.length : Int) - 1)) then (if (wrap64 ((x0.length : Int) - 1)) < (x0.length : Int) then (some ((((rd_T80 x0 (wrap64 ((x0.length : Int) - 1))).f1.f0.f0) == x459000 && (((rd_T80 x0 (wrap64 ((x0.length : Int) - 1))).f1.f0.f1) == x459001)) && (((rd_T80 x0 (wrap64 ((x0.length : Int) - 1))).f1.f1) == x2))) else (none)) else (none))
def impl_ProofOk.f (k : Nat) (l0 : List (S80)) (a1_0 : Int) (a1_1 : Int) (a2 : Int) : Option (Bool) := (impl_in.f (l0.length : Int) 1 200).bind fun t459 => (if t459 = true then (impl_ProofOk.l0 k l0 a2 (l0.length : Int) 0 a1_0 a1_1) else (some false))
set_option maxHeartbeats 8000000 in
set_option maxRecDepth 100000 in
theorem impl_ProofOk.calls (k : Nat) (A0 : Option Addr) (c0 : Nat) (l0 : List (S80)) (a1_0 : Int) (a1_1 : Int) (a2 : Int) (r : Bool) (w : World) (hr0 : Kd.C k80 w A0 l0.length l0) (hc0 : l0.length ≤ c0) (h : impl_ProofOk.f k l0 a1_0 a1_1 a2 = some r) :
  Calls Try.prog 42 #[.slice A0 l0.length c0, .agg #[.int .i64 a1_0, .int .i64 a1_1], .int .i64 a2] w fun e w' => e = .returned (.bool r) ∧ Below w.heap.size w w' := by
 have hu55 := Try.underlying55
 have hu57 := Try.underlying57
 have HR0 := aa_ hr0
 have HC0 := aa_ hc0
 clear hr0 hc0
 have HB := aa_ (Below.refl w.heap.size w)
 have H : ((impl_in.f (l0.length : Int) 1 200).bind fun t459 => (if t459 = true then (impl_ProofOk.l0 k l0 a2 (l0.length : Int) 0 a1_0 a1_1) else (some false))) = some r := h
 clear h
 obtain ⟨t459, A4, H⟩ := bindE_ H
 have HC5 := aa_ H
 clear H
 go_enter Try.func42, Try.ntmps42
 go_upto_if 11 with (first | ((with_reducible refine gD_ 4 rfl ?_); refine bx_ (N := 4) (cs := #[.int .i64 a1_0, .int .i64 a1_1]) (t := 55) ?_; intro gb458 hg w6 hbox hb; have BK458 := aa_ (hbox); have GW458 := gs_ hg; have GE458 := gs_ hg; replace HB := hbs_ hb; clear hb hbox hg) | (go_at_call 58; (with_reducible refine (impl_in.calls (l0.length : Int) 1 200 t459 _ A4.out).mono ?_); rintro e w' ⟨rfl, ⟨nd, rfl⟩⟩; (try first | exact ⟨rfl, _, World.drewN_drewN _ _ _⟩ | exact ⟨rfl, _, Eq.trans (World.drewN_drewN _ _ _) (congrArg (World.drewN _) (Nat.add_assoc _ _ _))⟩)))
 repeat (go_quiet (first | ((with_reducible refine gD_ 4 rfl ?_); refine bx_ (N := 4) (cs := #[.int .i64 a1_0, .int .i64 a1_1]) (t := 55) ?_; intro gb458 hg w6 hbox hb; have BK458 := aa_ (hbox); have GW458 := gs_ hg; have GE458 := gs_ hg; replace HB := hbs_ hb; clear hb hbox hg) | (go_at_call 58; (with_reducible refine (impl_in.calls (l0.length : Int) 1 200 t459 _ A4.out).mono ?_); rintro e w' ⟨rfl, ⟨nd, rfl⟩⟩; (try first | exact ⟨rfl, _, World.drewN_drewN _ _ _⟩ | exact ⟨rfl, _, Eq.trans (World.drewN_drewN _ _ _) (congrArg (World.drewN _) (Nat.add_assoc _ _ _))⟩))); go_upto_if 11 with (first | ((with_reducible refine gD_ 4 rfl ?_); refine bx_ (N := 4) (cs := #[.int .i64 a1_0, .int .i64 a1_1]) (t := 55) ?_; intro gb458 hg w6 hbox hb; have BK458 := aa_ (hbox); have GW458 := gs_ hg; have GE458 := gs_ hg; replace HB := hbs_ hb; clear hb hbox hg) | (go_at_call 58; (with_reducible refine (impl_in.calls (l0.length : Int) 1 200 t459 _ A4.out).mono ?_); rintro e w' ⟨rfl, ⟨nd, rfl⟩⟩; (try first | exact ⟨rfl, _, World.drewN_drewN _ _ _⟩ | exact ⟨rfl, _, Eq.trans (World.drewN_drewN _ _ _) (congrArg (World.drewN _) (Nat.add_assoc _ _ _))⟩))))
 (try simp only [Act.put, List.setIfInBounds_toArray, List.set_cons_zero, List.set_cons_succ])
 have H := HC5.out
 clear HC5
 by_cases c7 : t459 = true
 ·subst c7
  replace H := ite_t_ H
  have H' := aa_ H
  clear H
  go_wp2
  repeat (go_quiet (fail); try go_wp2)
  go_loopg [14] k (fun kq v14 w' => ∃ (x14_1 : Int), v14 = .int .i64 x14_1 ∧ Aside0 (impl_ProofOk.l0 kq l0 a2 (l0.length : Int) x14_1 a1_0 a1_1 = some r) ∧ Aside0 (kq ≤ k) ∧ Aside0 (w'.heap[gb458]? = some (.cells #[.int .i64 a1_0, .int .i64 a1_1] 55 (0, 0))) ∧ Aside0 (Below w.heap.size w w'))
  case atStart => exact ⟨(0), rf_, H', ⟨Nat.le_refl _⟩, ⟨bk_ BK458⟩, ⟨bl_⟩⟩
  case round =>
   clear H'
   try clear p2
   try clear c4
   try clear c7
   obtain ⟨x14_1, rfl, HA, HK1, BK458, HB⟩ := hrel
   cases gk with
   | zero => exact absurd HA.out (by simp [impl_ProofOk.l0])
   | succ k1 =>
    have H := HA.out
    clear HA
    simp only [impl_ProofOk.l0] at H
    by_cases c8 : x14_1 < (l0.length : Int)
    ·rw [if_pos c8] at H
     have c8b0 : decide (x14_1 < (l0.length : Int)) = true := decide_eq_true c8
     clear c8
     (first | rw [c8b0] | (simp only [i64_w, i32_w]; rw [c8b0]) | (have cz_ := c8b0; simp only [Int.ofNat_lt, Int.ofNat_le, gt_iff_lt, ge_iff_le] at cz_; rw [cz_]; clear cz_) | skip)
     obtain ⟨t460, A9, H⟩ := bindE_ H
     have HC10 := aa_ H
     clear H
     go_upto_if 20 with (first | (go_at_call 59; (with_reducible refine (impl_StepOk.calls k1 _ _ l0 x14_1 t460 _ ?side1 ?side2 A9.out).mono ?_); (case side1 => repeat (first | exact (Kd.C_below HR0.out HB.out) | (with_reducible refine Kd.C_alloc ?_ _) | (with_reducible refine Kd.C_drewN ?_ _) | (with_reducible refine Kd.C_drew ?_))); (case side2 => exact HC0.out); rintro e w11 ⟨rfl, hb⟩; replace BK458 := bkb_ BK458 hb; replace HB := hbs_ hb; clear hb))
     repeat (go_quiet (first | (go_at_call 59; (with_reducible refine (impl_StepOk.calls k1 _ _ l0 x14_1 t460 _ ?side1 ?side2 A9.out).mono ?_); (case side1 => repeat (first | exact (Kd.C_below HR0.out HB.out) | (with_reducible refine Kd.C_alloc ?_ _) | (with_reducible refine Kd.C_drewN ?_ _) | (with_reducible refine Kd.C_drew ?_))); (case side2 => exact HC0.out); rintro e w11 ⟨rfl, hb⟩; replace BK458 := bkb_ BK458 hb; replace HB := hbs_ hb; clear hb)); go_upto_if 20 with (first | (go_at_call 59; (with_reducible refine (impl_StepOk.calls k1 _ _ l0 x14_1 t460 _ ?side1 ?side2 A9.out).mono ?_); (case side1 => repeat (first | exact (Kd.C_below HR0.out HB.out) | (with_reducible refine Kd.C_alloc ?_ _) | (with_reducible refine Kd.C_drewN ?_ _) | (with_reducible refine Kd.C_drew ?_))); (case side2 => exact HC0.out); rintro e w11 ⟨rfl, hb⟩; replace BK458 := bkb_ BK458 hb; replace HB := hbs_ hb; clear hb)))
     (try simp only [Act.put, List.setIfInBounds_toArray, List.set_cons_zero, List.set_cons_succ])
     have H := HC10.out
     clear HC10
     by_cases c12 : t460 = true
     ·subst c12
      replace H := ite_t_ H
      have H' := aa_ H
      clear H
      go_wp2
      repeat (go_quiet (fail); try go_wp2)
      go_roundg k1
      case measure => have := HK1.out; omega
      case rel => exact ⟨(wrap64 (x14_1 + 1)), rf_, H', ⟨by have := HK1.out; omega⟩, ⟨bk_ BK458⟩, ⟨bl_⟩⟩
     ·replace c12 := Bool.eq_false_iff.mpr c12
      subst c12
      replace H := ite_f_ H
      obtain rfl := Option.some.inj H
      go_wp2
      repeat (go_quiet (fail); try go_wp2)
      go_ret
      exact ⟨eq_, bl_⟩
    ·rw [if_neg c8] at H
     have c8b0 : decide (x14_1 < (l0.length : Int)) = false := decide_eq_false c8
     clear c8
     (first | rw [c8b0] | (simp only [i64_w, i32_w]; rw [c8b0]) | (have cz_ := c8b0; simp only [Int.ofNat_lt, Int.ofNat_le, gt_iff_lt, ge_iff_le] at cz_; rw [cz_]; clear cz_) | skip)
     obtain ⟨ji13, hji13⟩ : ∃ j_ : Int, (wrap64 ((l0.length : Int) - 1)) = j_ := ⟨_, rfl⟩
     replace H : (if 0 ≤ (ji13) then (if (ji13) < (l0.length : Int) then (some ((((rd_T80 l0 (ji13)).f1.f0.f0) == a1_0 && (((rd_T80 l0 (ji13)).f1.f0.f1) == a1_1)) && (((rd_T80 l0 (ji13)).f1.f1) == a2))) else (none)) else (none)) = some r := by first | (rw [hji13] at H; exact H) | (simp only [hji13] at H ⊢; exact H)
     have hji13w : (IntKind.i64.wrap ((l0.length : Int) - 1)) = ji13 := (i64_w _).trans hji13
     obtain ⟨c14b0, H⟩ := ifd_ H
     obtain ⟨c15b0, H⟩ := ifd_ H
     obtain rfl := Option.some.inj H
     have p461 : 0 ≤ ((ji13) : Int) := od_
     have q461 : (ji13) < (l0.length : Int) := od_
     obtain ⟨ad461, A461_13, c461_13, e461, hx461_0, hx461_1, hx461_2, hx461_3, hx461_4, hx461_5, hx461_6, hx461_7, hx461_8, hx461_9, hx461_10, hx461_11, hx461_12, hx461_13, hl461_13, hi461_13⟩ := at_T80 HR0.out (ji13) p461 q461
     cases e461
     replace hx461_0 := cb_ HB hx461_0
     replace hx461_1 := cb_ HB hx461_1
     replace hx461_2 := cb_ HB hx461_2
     replace hx461_3 := cb_ HB hx461_3
     replace hx461_4 := cb_ HB hx461_4
     replace hx461_5 := cb_ HB hx461_5
     replace hx461_6 := cb_ HB hx461_6
     replace hx461_7 := cb_ HB hx461_7
     replace hx461_8 := cb_ HB hx461_8
     replace hx461_9 := cb_ HB hx461_9
     replace hx461_10 := cb_ HB hx461_10
     replace hx461_11 := cb_ HB hx461_11
     replace hx461_12 := cb_ HB hx461_12
     replace hx461_13 := cb_ HB hx461_13
     have HR461_13 := aa_ hi461_13
     have HC461_13 := aa_ hl461_13
     clear hi461_13 hl461_13
     replace p461 := eq_true p461
     replace q461 := eq_true q461
     have hcz16 := blk_cell BK458.out
     have hfz16 := blk_frozen BK458.out
     go_wp2
     repeat (go_quiet (fail); try go_wp2)
     go_ret
     exact ⟨by first | rfl | (simp [errW_none, errW_some] <;> rfl) | (simp only [← hji13]; first | rfl | (simp [errW_none, errW_some] <;> rfl)) | (simp [*, errW_none, errW_some] <;> rfl), bl_⟩
 ·replace c7 := Bool.eq_false_iff.mpr c7
  subst c7
  replace H := ite_f_ H
  obtain rfl := Option.some.inj H
  go_wp2
  repeat (go_quiet (fail); try go_wp2)
  go_ret
  exact ⟨eq_, bl_⟩
end Go.Proofs.Ytcnjbkfnijnpnaa.PA
