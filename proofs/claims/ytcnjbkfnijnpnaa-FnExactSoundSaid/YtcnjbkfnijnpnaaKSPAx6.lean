import Derived.Test.YtcnjbkfnijnpnaaKSPAx5
-- printed by wip/tools
namespace Go.Proofs.Ytcnjbkfnijnpnaa.PA
open Go.RowKit Go.Proofs.YtcnjbkfnijnpnaaW.PrintWords Go.Proofs.YtcnjbkfnijnpnaaW.PrintLast Go.Proofs.YtcnjbkfnijnpnaaW.PrintMore
attribute [local go_sem] max2_int min2_int max_two min_two max_three min_three max_four min_four
set_option linter.unusedVariables false
set_option linter.unusedSimpArgs false
attribute [local go_sem high] eqA55 eqA57
mutual
def spec_StepOk.j0 : Nat → List (S80) → Int → Bool → Int → Int → Int → Int → Int → Int → Int → Int → Int → Int → Int → Int → Int → List Int → Int → Int → Int → Int → Int → Int → Int → Int → Int → Int → Option (Bool)
 | 0, _, _, _, _, _, _, _, _, _, _, _, _, _, _, _, _, _, _, _, _, _, _, _, _, _, _, _ => none
 | k + 1, x0, x1, x31, x164000, x164001, x164002, x164003, x164004, x164005, x164006, x164007, x164008, x164009, x164010, x164011, x164012, x164013, x165000, x165001, x165002, x165003, x165004, x165005, x165006, x165007, x165008, x165009 => if x31 = true then (some false) else (spec_StepOk.l0 k x0 x1 0 x164000 x164001 x164002 x164003 x164004 x164005 x164006 x164007 x164008 x164009 x164010 x164011 x164012 x164013 x165000 x165001 x165002 x165003 x165004 x165005 x165006 x165007 x165008 x165009)
def spec_StepOk.l0 : Nat → List (S80) → Int → Int → Int → Int → Int → Int → Int → Int → Int → Int → Int → Int → Int → Int → Int → List Int → Int → Int → Int → Int → Int → Int → Int → Int → Int → Int → Option (Bool)
 | 0, _, _, _, _, _, _, _, _, _, _, _, _, _, _, _, _, _, _, _, _, _, _, _, _, _, _, _ => none
 | k + 1, x0, x1, x7, x164000, x164001, x164002, x164003, x164004, x164005, x164006, x164007, x164008, x164009, x164010, x164011, x164012, x164013, x165000, x165001, x165002, x165003, x165004, x165005, x165006, x165007, x165008, x165009 => if x7 < (x164013.length : Int) then (if 0 ≤ x7 then ((spec_l01In.f (rd x164013 x7) 0 (wrap64 (x1 - 1))).bind fun t167 => (if t167 = true then (spec_StepOk.l0 k x0 x1 (wrap64 (x7 + 1)) x164000 x164001 x164002 x164003 x164004 x164005 x164006 x164007 x164008 x164009 x164010 x164011 x164012 x164013 x165000 x165001 x165002 x165003 x165004 x165005 x165006 x165007 x165008 x165009) else (some false))) else (none)) else (if x165000 = 1 then (if x164012 = x165003 then (some ((x164013.length : Int) == 0)) else (some false)) else (if x165000 = 2 then (if (x164013.length : Int) = 1 then ((spec_l07Shown.f k x0 x1 x165004 x165005 x164012).bind fun t168 => (some t168)) else (some false)) else (if x165000 = 4 then (if (x164013.length : Int) = 2 then (if 0 < (x164013.length : Int) then (if 0 ≤ (rd x164013 0) then (if (rd x164013 0) < (x0.length : Int) then (if ((((rd_T80 x0 (rd x164013 0)).f1.f0.f0) == x165004 && (((rd_T80 x0 (rd x164013 0)).f1.f0.f1) == x165005)) && (((rd_T80 x0 (rd x164013 0)).f1.f1) == x164012)) = true then (if 1 < (x164013.length : Int) then (if 0 ≤ (rd x164013 1) then (if (rd x164013 1) < (x0.length : Int) then (some ((((rd_T80 x0 (rd x164013 1)).f1.f0.f0) == x165006 && (((rd_T80 x0 (rd x164013 1)).f1.f0.f1) == x165007)) && (((rd_T80 x0 (rd x164013 1)).f1.f1) == x164012))) else (none)) else (none)) else (none)) else (some false)) else (none)) else (none)) else (none)) else (some false)) else (if (x164013.length : Int) = 2 then (if 0 < (x164013.length : Int) then (if 0 ≤ (rd x164013 0) then (if (rd x164013 0) < (x0.length : Int) then (if (!(((rd_T80 x0 (rd x164013 0)).f1.f0.f0) == x165004) || (!(((rd_T80 x0 (rd x164013 0)).f1.f0.f1) == x165005))) = true then (some false) else (if 1 < (x164013.length : Int) then (if 0 ≤ (rd x164013 1) then (if (rd x164013 1) < (x0.length : Int) then (some ((((rd_T80 x0 (rd x164013 1)).f1.f0.f0) == ((rd_T80 x0 (rd x164013 0)).f1.f1) && (((rd_T80 x0 (rd x164013 1)).f1.f0.f1) == x165007)) && (((rd_T80 x0 (rd x164013 1)).f1.f1) == x164012))) else (none)) else (none)) else (none))) else (none)) else (none)) else (none)) else (some false)))))
end
def spec_StepOk.f (k : Nat) (l0 : List (S80)) (a1 : Int) : Option (Bool) := (spec_l01In.f a1 0 (wrap64 ((l0.length : Int) - 1))).bind fun t161 => (if t161 = true then (if 0 ≤ a1 then (if a1 < (l0.length : Int) then ((spec_CredOk.f k ((rd_T80 l0 a1).f0.f0) ((rd_T80 l0 a1).f0.f1.f0) ((rd_T80 l0 a1).f0.f1.f1) ((rd_T80 l0 a1).f0.f2) ((rd_T80 l0 a1).f0.f3.f0) ((rd_T80 l0 a1).f0.f3.f1) ((rd_T80 l0 a1).f0.f4.f0) ((rd_T80 l0 a1).f0.f4.f1) ((rd_T80 l0 a1).f0.f5) ((rd_T80 l0 a1).f0.f6)).bind fun t165 => (if t165 = true then (spec_StepOk.j0 k l0 a1 (!(((rd_T80 l0 a1).f1.f0.f0) == ((rd_T80 l0 a1).f0.f1.f0)) || (!(((rd_T80 l0 a1).f1.f0.f1) == ((rd_T80 l0 a1).f0.f1.f1)))) ((rd_T80 l0 a1).f0.f0) ((rd_T80 l0 a1).f0.f1.f0) ((rd_T80 l0 a1).f0.f1.f1) ((rd_T80 l0 a1).f0.f2) ((rd_T80 l0 a1).f0.f3.f0) ((rd_T80 l0 a1).f0.f3.f1) ((rd_T80 l0 a1).f0.f4.f0) ((rd_T80 l0 a1).f0.f4.f1) ((rd_T80 l0 a1).f0.f5) ((rd_T80 l0 a1).f0.f6) ((rd_T80 l0 a1).f1.f0.f0) ((rd_T80 l0 a1).f1.f0.f1) ((rd_T80 l0 a1).f1.f1) ((rd_T80 l0 a1).f2) ((rd_T80 l0 a1).f0.f0) ((rd_T80 l0 a1).f0.f1.f0) ((rd_T80 l0 a1).f0.f1.f1) ((rd_T80 l0 a1).f0.f2) ((rd_T80 l0 a1).f0.f3.f0) ((rd_T80 l0 a1).f0.f3.f1) ((rd_T80 l0 a1).f0.f4.f0) ((rd_T80 l0 a1).f0.f4.f1) ((rd_T80 l0 a1).f0.f5) ((rd_T80 l0 a1).f0.f6)) else (spec_StepOk.j0 k l0 a1 true ((rd_T80 l0 a1).f0.f0) ((rd_T80 l0 a1).f0.f1.f0) ((rd_T80 l0 a1).f0.f1.f1) ((rd_T80 l0 a1).f0.f2) ((rd_T80 l0 a1).f0.f3.f0) ((rd_T80 l0 a1).f0.f3.f1) ((rd_T80 l0 a1).f0.f4.f0) ((rd_T80 l0 a1).f0.f4.f1) ((rd_T80 l0 a1).f0.f5) ((rd_T80 l0 a1).f0.f6) ((rd_T80 l0 a1).f1.f0.f0) ((rd_T80 l0 a1).f1.f0.f1) ((rd_T80 l0 a1).f1.f1) ((rd_T80 l0 a1).f2) ((rd_T80 l0 a1).f0.f0) ((rd_T80 l0 a1).f0.f1.f0) ((rd_T80 l0 a1).f0.f1.f1) ((rd_T80 l0 a1).f0.f2) ((rd_T80 l0 a1).f0.f3.f0) ((rd_T80 l0 a1).f0.f3.f1) ((rd_T80 l0 a1).f0.f4.f0) ((rd_T80 l0 a1).f0.f4.f1) ((rd_T80 l0 a1).f0.f5) ((rd_T80 l0 a1).f0.f6)))) else (none)) else (none)) else (some false))
set_option maxHeartbeats 8000000 in
set_option maxRecDepth 100000 in
theorem spec_StepOk.calls (k : Nat) (A0 : Option Addr) (c0 : Nat) (l0 : List (S80)) (a1 : Int) (r : Bool) (w : World) (hr0 : Kd.C k80 w A0 l0.length l0) (hc0 : l0.length ≤ c0) (h : spec_StepOk.f k l0 a1 = some r) :
  Calls Try.prog 53 #[.slice A0 l0.length c0, .int .i64 a1] w fun e w' => e = .returned (.bool r) ∧ Below w.heap.size w w' := by
 have hu80 := Try.underlying80
 have hu61 := Try.underlying61
 have hu55 := Try.underlying55
 have hu57 := Try.underlying57
 have HR0 := aa_ hr0
 have HC0 := aa_ hc0
 clear hr0 hc0
 have HB := aa_ (Below.refl w.heap.size w)
 have H : ((spec_l01In.f a1 0 (wrap64 ((l0.length : Int) - 1))).bind fun t161 => (if t161 = true then (if 0 ≤ a1 then (if a1 < (l0.length : Int) then ((spec_CredOk.f k ((rd_T80 l0 a1).f0.f0) ((rd_T80 l0 a1).f0.f1.f0) ((rd_T80 l0 a1).f0.f1.f1) ((rd_T80 l0 a1).f0.f2) ((rd_T80 l0 a1).f0.f3.f0) ((rd_T80 l0 a1).f0.f3.f1) ((rd_T80 l0 a1).f0.f4.f0) ((rd_T80 l0 a1).f0.f4.f1) ((rd_T80 l0 a1).f0.f5) ((rd_T80 l0 a1).f0.f6)).bind fun t165 => (if t165 = true then (spec_StepOk.j0 k l0 a1 (!(((rd_T80 l0 a1).f1.f0.f0) == ((rd_T80 l0 a1).f0.f1.f0)) || (!(((rd_T80 l0 a1).f1.f0.f1) == ((rd_T80 l0 a1).f0.f1.f1)))) ((rd_T80 l0 a1).f0.f0) ((rd_T80 l0 a1).f0.f1.f0) ((rd_T80 l0 a1).f0.f1.f1) ((rd_T80 l0 a1).f0.f2) ((rd_T80 l0 a1).f0.f3.f0) ((rd_T80 l0 a1).f0.f3.f1) ((rd_T80 l0 a1).f0.f4.f0) ((rd_T80 l0 a1).f0.f4.f1) ((rd_T80 l0 a1).f0.f5) ((rd_T80 l0 a1).f0.f6) ((rd_T80 l0 a1).f1.f0.f0) ((rd_T80 l0 a1).f1.f0.f1) ((rd_T80 l0 a1).f1.f1) ((rd_T80 l0 a1).f2) ((rd_T80 l0 a1).f0.f0) ((rd_T80 l0 a1).f0.f1.f0) ((rd_T80 l0 a1).f0.f1.f1) ((rd_T80 l0 a1).f0.f2) ((rd_T80 l0 a1).f0.f3.f0) ((rd_T80 l0 a1).f0.f3.f1) ((rd_T80 l0 a1).f0.f4.f0) ((rd_T80 l0 a1).f0.f4.f1) ((rd_T80 l0 a1).f0.f5) ((rd_T80 l0 a1).f0.f6)) else (spec_StepOk.j0 k l0 a1 true ((rd_T80 l0 a1).f0.f0) ((rd_T80 l0 a1).f0.f1.f0) ((rd_T80 l0 a1).f0.f1.f1) ((rd_T80 l0 a1).f0.f2) ((rd_T80 l0 a1).f0.f3.f0) ((rd_T80 l0 a1).f0.f3.f1) ((rd_T80 l0 a1).f0.f4.f0) ((rd_T80 l0 a1).f0.f4.f1) ((rd_T80 l0 a1).f0.f5) ((rd_T80 l0 a1).f0.f6) ((rd_T80 l0 a1).f1.f0.f0) ((rd_T80 l0 a1).f1.f0.f1) ((rd_T80 l0 a1).f1.f1) ((rd_T80 l0 a1).f2) ((rd_T80 l0 a1).f0.f0) ((rd_T80 l0 a1).f0.f1.f0) ((rd_T80 l0 a1).f0.f1.f1) ((rd_T80 l0 a1).f0.f2) ((rd_T80 l0 a1).f0.f3.f0) ((rd_T80 l0 a1).f0.f3.f1) ((rd_T80 l0 a1).f0.f4.f0) ((rd_T80 l0 a1).f0.f4.f1) ((rd_T80 l0 a1).f0.f5) ((rd_T80 l0 a1).f0.f6)))) else (none)) else (none)) else (some false))) = some r := h
 clear h
 obtain ⟨t161, A3, H⟩ := bindE_ H
 have HC4 := aa_ H
 clear H
 go_enter Try.func53, Try.ntmps53
 go_upto_if 14 with (first | (go_at_call 52; (with_reducible refine (spec_l01In.calls a1 0 (wrap64 ((l0.length : Int) - 1)) t161 _ A3.out).mono ?_); rintro e w' ⟨rfl, ⟨nd, rfl⟩⟩; (try first | exact ⟨rfl, _, World.drewN_drewN _ _ _⟩ | exact ⟨rfl, _, Eq.trans (World.drewN_drewN _ _ _) (congrArg (World.drewN _) (Nat.add_assoc _ _ _))⟩)))
 repeat (go_quiet (first | (go_at_call 52; (with_reducible refine (spec_l01In.calls a1 0 (wrap64 ((l0.length : Int) - 1)) t161 _ A3.out).mono ?_); rintro e w' ⟨rfl, ⟨nd, rfl⟩⟩; (try first | exact ⟨rfl, _, World.drewN_drewN _ _ _⟩ | exact ⟨rfl, _, Eq.trans (World.drewN_drewN _ _ _) (congrArg (World.drewN _) (Nat.add_assoc _ _ _))⟩))); go_upto_if 14 with (first | (go_at_call 52; (with_reducible refine (spec_l01In.calls a1 0 (wrap64 ((l0.length : Int) - 1)) t161 _ A3.out).mono ?_); rintro e w' ⟨rfl, ⟨nd, rfl⟩⟩; (try first | exact ⟨rfl, _, World.drewN_drewN _ _ _⟩ | exact ⟨rfl, _, Eq.trans (World.drewN_drewN _ _ _) (congrArg (World.drewN _) (Nat.add_assoc _ _ _))⟩))))
 (try simp only [Act.put, List.setIfInBounds_toArray, List.set_cons_zero, List.set_cons_succ])
 have H := HC4.out
 clear HC4
 by_cases c5 : t161 = true
 ·subst c5
  replace H := ite_t_ H
  obtain ⟨c6b0, H⟩ := ifd_ H
  (first | rw [c6b0] | (simp only [i64_w, i32_w]; rw [c6b0]) | skip)
  obtain ⟨c7b0, H⟩ := ifd_ H
  have HC8 := aa_ H
  clear H
  have p162 : 0 ≤ (a1 : Int) := od_
  have q162 : a1 < (l0.length : Int) := od_
  obtain ⟨ad162, A162_13, c162_13, e162, hx162_0, hx162_1, hx162_2, hx162_3, hx162_4, hx162_5, hx162_6, hx162_7, hx162_8, hx162_9, hx162_10, hx162_11, hx162_12, hx162_13, hl162_13, hi162_13⟩ := at_T80 HR0.out a1 p162 q162
  cases e162
  replace hx162_0 := cb_ HB hx162_0
  replace hx162_1 := cb_ HB hx162_1
  replace hx162_2 := cb_ HB hx162_2
  replace hx162_3 := cb_ HB hx162_3
  replace hx162_4 := cb_ HB hx162_4
  replace hx162_5 := cb_ HB hx162_5
  replace hx162_6 := cb_ HB hx162_6
  replace hx162_7 := cb_ HB hx162_7
  replace hx162_8 := cb_ HB hx162_8
  replace hx162_9 := cb_ HB hx162_9
  replace hx162_10 := cb_ HB hx162_10
  replace hx162_11 := cb_ HB hx162_11
  replace hx162_12 := cb_ HB hx162_12
  replace hx162_13 := cb_ HB hx162_13
  have HR162_13 := aa_ hi162_13
  have HC162_13 := aa_ hl162_13
  clear hi162_13 hl162_13
  replace p162 := eq_true p162
  replace q162 := eq_true q162
  go_upto_region 5 with (first | ((with_reducible refine gD_ 5 rfl ?_); (try (refine gate_guard (by rfl) ?_; dsimp only)); refine bx_ (N := 5) (cs := #[.int .i64 0, .int .i64 0, .int .i64 0, .int .i64 0, .int .i64 0, .int .i64 0, .int .i64 0, .int .i64 0, .int .i64 0, .int .i64 0, .int .i64 0, .int .i64 0, .int .i64 0, .slice none 0 0]) (t := 80) ?_; intro gb163 hg w9 hbox hb; have BK163 := aa_ (hbox); have GW163 := gs_ hg; have GE163 := gs_ hg; replace HB := hbs_ hb; clear hb hbox hg; obtain ⟨hcz10, hfz10⟩ := bcf_ BK163) | ((with_reducible refine gD_ 6 rfl ?_); (try (refine gate_guard (by rfl) ?_; dsimp only)); refine bx_ (N := 6) (cs := #[.int .i64 0, .int .i64 0, .int .i64 0, .int .i64 0, .int .i64 0, .int .i64 0, .int .i64 0, .int .i64 0, .int .i64 0, .int .i64 0]) (t := 61) ?_; intro gb164 hg w11 hbox hb; have BK164 := aa_ (hbox); have GW164 := gs_ hg; have GE164 := gs_ hg; replace HB := hbs_ hb; have NB163_164 := nl_ hg BK163; have NB164_163 := nr_ hg BK163; replace BK163 := aa_ (blk_below (g := gb163) (o := .cells #[.int .i64 ((rd_T80 l0 a1).f0.f0), .int .i64 ((rd_T80 l0 a1).f0.f1.f0), .int .i64 ((rd_T80 l0 a1).f0.f1.f1), .int .i64 ((rd_T80 l0 a1).f0.f2), .int .i64 ((rd_T80 l0 a1).f0.f3.f0), .int .i64 ((rd_T80 l0 a1).f0.f3.f1), .int .i64 ((rd_T80 l0 a1).f0.f4.f0), .int .i64 ((rd_T80 l0 a1).f0.f4.f1), .int .i64 ((rd_T80 l0 a1).f0.f5), .int .i64 ((rd_T80 l0 a1).f0.f6), .int .i64 ((rd_T80 l0 a1).f1.f0.f0), .int .i64 ((rd_T80 l0 a1).f1.f0.f1), .int .i64 ((rd_T80 l0 a1).f1.f1), .slice A162_13 ((rd_T80 l0 a1).f2).length c162_13] 80 (0, 0)) (bk_ BK163) hb); clear hb hbox hg; have hnb12 := NB164_163.out; have hnc12 := NB163_164.out; obtain ⟨hcz13, hfz13⟩ := bcf_ BK164))
  repeat (go_quiet (first | ((with_reducible refine gD_ 5 rfl ?_); (try (refine gate_guard (by rfl) ?_; dsimp only)); refine bx_ (N := 5) (cs := #[.int .i64 0, .int .i64 0, .int .i64 0, .int .i64 0, .int .i64 0, .int .i64 0, .int .i64 0, .int .i64 0, .int .i64 0, .int .i64 0, .int .i64 0, .int .i64 0, .int .i64 0, .slice none 0 0]) (t := 80) ?_; intro gb163 hg w9 hbox hb; have BK163 := aa_ (hbox); have GW163 := gs_ hg; have GE163 := gs_ hg; replace HB := hbs_ hb; clear hb hbox hg; obtain ⟨hcz10, hfz10⟩ := bcf_ BK163) | ((with_reducible refine gD_ 6 rfl ?_); (try (refine gate_guard (by rfl) ?_; dsimp only)); refine bx_ (N := 6) (cs := #[.int .i64 0, .int .i64 0, .int .i64 0, .int .i64 0, .int .i64 0, .int .i64 0, .int .i64 0, .int .i64 0, .int .i64 0, .int .i64 0]) (t := 61) ?_; intro gb164 hg w11 hbox hb; have BK164 := aa_ (hbox); have GW164 := gs_ hg; have GE164 := gs_ hg; replace HB := hbs_ hb; have NB163_164 := nl_ hg BK163; have NB164_163 := nr_ hg BK163; replace BK163 := aa_ (blk_below (g := gb163) (o := .cells #[.int .i64 ((rd_T80 l0 a1).f0.f0), .int .i64 ((rd_T80 l0 a1).f0.f1.f0), .int .i64 ((rd_T80 l0 a1).f0.f1.f1), .int .i64 ((rd_T80 l0 a1).f0.f2), .int .i64 ((rd_T80 l0 a1).f0.f3.f0), .int .i64 ((rd_T80 l0 a1).f0.f3.f1), .int .i64 ((rd_T80 l0 a1).f0.f4.f0), .int .i64 ((rd_T80 l0 a1).f0.f4.f1), .int .i64 ((rd_T80 l0 a1).f0.f5), .int .i64 ((rd_T80 l0 a1).f0.f6), .int .i64 ((rd_T80 l0 a1).f1.f0.f0), .int .i64 ((rd_T80 l0 a1).f1.f0.f1), .int .i64 ((rd_T80 l0 a1).f1.f1), .slice A162_13 ((rd_T80 l0 a1).f2).length c162_13] 80 (0, 0)) (bk_ BK163) hb); clear hb hbox hg; have hnb12 := NB164_163.out; have hnc12 := NB163_164.out; obtain ⟨hcz13, hfz13⟩ := bcf_ BK164)); go_upto_region 5 with (first | ((with_reducible refine gD_ 5 rfl ?_); (try (refine gate_guard (by rfl) ?_; dsimp only)); refine bx_ (N := 5) (cs := #[.int .i64 0, .int .i64 0, .int .i64 0, .int .i64 0, .int .i64 0, .int .i64 0, .int .i64 0, .int .i64 0, .int .i64 0, .int .i64 0, .int .i64 0, .int .i64 0, .int .i64 0, .slice none 0 0]) (t := 80) ?_; intro gb163 hg w9 hbox hb; have BK163 := aa_ (hbox); have GW163 := gs_ hg; have GE163 := gs_ hg; replace HB := hbs_ hb; clear hb hbox hg; obtain ⟨hcz10, hfz10⟩ := bcf_ BK163) | ((with_reducible refine gD_ 6 rfl ?_); (try (refine gate_guard (by rfl) ?_; dsimp only)); refine bx_ (N := 6) (cs := #[.int .i64 0, .int .i64 0, .int .i64 0, .int .i64 0, .int .i64 0, .int .i64 0, .int .i64 0, .int .i64 0, .int .i64 0, .int .i64 0]) (t := 61) ?_; intro gb164 hg w11 hbox hb; have BK164 := aa_ (hbox); have GW164 := gs_ hg; have GE164 := gs_ hg; replace HB := hbs_ hb; have NB163_164 := nl_ hg BK163; have NB164_163 := nr_ hg BK163; replace BK163 := aa_ (blk_below (g := gb163) (o := .cells #[.int .i64 ((rd_T80 l0 a1).f0.f0), .int .i64 ((rd_T80 l0 a1).f0.f1.f0), .int .i64 ((rd_T80 l0 a1).f0.f1.f1), .int .i64 ((rd_T80 l0 a1).f0.f2), .int .i64 ((rd_T80 l0 a1).f0.f3.f0), .int .i64 ((rd_T80 l0 a1).f0.f3.f1), .int .i64 ((rd_T80 l0 a1).f0.f4.f0), .int .i64 ((rd_T80 l0 a1).f0.f4.f1), .int .i64 ((rd_T80 l0 a1).f0.f5), .int .i64 ((rd_T80 l0 a1).f0.f6), .int .i64 ((rd_T80 l0 a1).f1.f0.f0), .int .i64 ((rd_T80 l0 a1).f1.f0.f1), .int .i64 ((rd_T80 l0 a1).f1.f1), .slice A162_13 ((rd_T80 l0 a1).f2).length c162_13] 80 (0, 0)) (bk_ BK163) hb); clear hb hbox hg; have hnb12 := NB164_163.out; have hnc12 := NB163_164.out; obtain ⟨hcz13, hfz13⟩ := bcf_ BK164)))
  (try simp only [Act.put, List.setIfInBounds_toArray, List.set_cons_zero, List.set_cons_succ])
  go_cut [31] (fun v31 wc => ∃ (kq : Nat) (x31_7 : Bool), v31 = .bool x31_7 ∧ Aside0 (spec_StepOk.j0 kq l0 a1 x31_7 ((rd_T80 l0 a1).f0.f0) ((rd_T80 l0 a1).f0.f1.f0) ((rd_T80 l0 a1).f0.f1.f1) ((rd_T80 l0 a1).f0.f2) ((rd_T80 l0 a1).f0.f3.f0) ((rd_T80 l0 a1).f0.f3.f1) ((rd_T80 l0 a1).f0.f4.f0) ((rd_T80 l0 a1).f0.f4.f1) ((rd_T80 l0 a1).f0.f5) ((rd_T80 l0 a1).f0.f6) ((rd_T80 l0 a1).f1.f0.f0) ((rd_T80 l0 a1).f1.f0.f1) ((rd_T80 l0 a1).f1.f1) ((rd_T80 l0 a1).f2) ((rd_T80 l0 a1).f0.f0) ((rd_T80 l0 a1).f0.f1.f0) ((rd_T80 l0 a1).f0.f1.f1) ((rd_T80 l0 a1).f0.f2) ((rd_T80 l0 a1).f0.f3.f0) ((rd_T80 l0 a1).f0.f3.f1) ((rd_T80 l0 a1).f0.f4.f0) ((rd_T80 l0 a1).f0.f4.f1) ((rd_T80 l0 a1).f0.f5) ((rd_T80 l0 a1).f0.f6) = some r) ∧ Aside0 (kq ≤ k) ∧ Aside0 (wc.heap[gb163]? = some (.cells #[.int .i64 ((rd_T80 l0 a1).f0.f0), .int .i64 ((rd_T80 l0 a1).f0.f1.f0), .int .i64 ((rd_T80 l0 a1).f0.f1.f1), .int .i64 ((rd_T80 l0 a1).f0.f2), .int .i64 ((rd_T80 l0 a1).f0.f3.f0), .int .i64 ((rd_T80 l0 a1).f0.f3.f1), .int .i64 ((rd_T80 l0 a1).f0.f4.f0), .int .i64 ((rd_T80 l0 a1).f0.f4.f1), .int .i64 ((rd_T80 l0 a1).f0.f5), .int .i64 ((rd_T80 l0 a1).f0.f6), .int .i64 ((rd_T80 l0 a1).f1.f0.f0), .int .i64 ((rd_T80 l0 a1).f1.f0.f1), .int .i64 ((rd_T80 l0 a1).f1.f1), (.slice A162_13 ((rd_T80 l0 a1).f2).length c162_13)] 80 (0, 0))) ∧ Aside0 (wc.heap[gb164]? = some (.cells #[.int .i64 ((rd_T80 l0 a1).f0.f0), .int .i64 ((rd_T80 l0 a1).f0.f1.f0), .int .i64 ((rd_T80 l0 a1).f0.f1.f1), .int .i64 ((rd_T80 l0 a1).f0.f2), .int .i64 ((rd_T80 l0 a1).f0.f3.f0), .int .i64 ((rd_T80 l0 a1).f0.f3.f1), .int .i64 ((rd_T80 l0 a1).f0.f4.f0), .int .i64 ((rd_T80 l0 a1).f0.f4.f1), .int .i64 ((rd_T80 l0 a1).f0.f5), .int .i64 ((rd_T80 l0 a1).f0.f6)] 61 (0, 0))) ∧ Aside0 (Below w.heap.size w wc))
  case first =>
   have H := HC8.out
   clear HC8
   obtain ⟨t165, A14, H⟩ := bindE_ H
   by_cases c15 : t165 = true
   ·subst c15
    replace H := ite_t_ H
    have H' := aa_ H
    clear H
    have hnb16 := NB164_163.out
    have hnc16 := NB163_164.out
    have hcz17 := blk_cell BK164.out
    have hfz17 := blk_frozen BK164.out
    go_wp2_with (first | (go_at_call 54; (with_reducible refine (spec_CredOk.calls k ((rd_T80 l0 a1).f0.f0) ((rd_T80 l0 a1).f0.f1.f0) ((rd_T80 l0 a1).f0.f1.f1) ((rd_T80 l0 a1).f0.f2) ((rd_T80 l0 a1).f0.f3.f0) ((rd_T80 l0 a1).f0.f3.f1) ((rd_T80 l0 a1).f0.f4.f0) ((rd_T80 l0 a1).f0.f4.f1) ((rd_T80 l0 a1).f0.f5) ((rd_T80 l0 a1).f0.f6) true _ A14.out).mono ?_); rintro e w18 ⟨rfl, hb⟩; replace BK163 := aa_ (blk_below (g := gb163) (o := .cells #[.int .i64 ((rd_T80 l0 a1).f0.f0), .int .i64 ((rd_T80 l0 a1).f0.f1.f0), .int .i64 ((rd_T80 l0 a1).f0.f1.f1), .int .i64 ((rd_T80 l0 a1).f0.f2), .int .i64 ((rd_T80 l0 a1).f0.f3.f0), .int .i64 ((rd_T80 l0 a1).f0.f3.f1), .int .i64 ((rd_T80 l0 a1).f0.f4.f0), .int .i64 ((rd_T80 l0 a1).f0.f4.f1), .int .i64 ((rd_T80 l0 a1).f0.f5), .int .i64 ((rd_T80 l0 a1).f0.f6), .int .i64 ((rd_T80 l0 a1).f1.f0.f0), .int .i64 ((rd_T80 l0 a1).f1.f0.f1), .int .i64 ((rd_T80 l0 a1).f1.f1), .slice A162_13 ((rd_T80 l0 a1).f2).length c162_13] 80 (0, 0)) (bk_ BK163) hb); replace BK164 := aa_ (blk_below (g := gb164) (o := .cells #[.int .i64 ((rd_T80 l0 a1).f0.f0), .int .i64 ((rd_T80 l0 a1).f0.f1.f0), .int .i64 ((rd_T80 l0 a1).f0.f1.f1), .int .i64 ((rd_T80 l0 a1).f0.f2), .int .i64 ((rd_T80 l0 a1).f0.f3.f0), .int .i64 ((rd_T80 l0 a1).f0.f3.f1), .int .i64 ((rd_T80 l0 a1).f0.f4.f0), .int .i64 ((rd_T80 l0 a1).f0.f4.f1), .int .i64 ((rd_T80 l0 a1).f0.f5), .int .i64 ((rd_T80 l0 a1).f0.f6)] 61 (0, 0)) (bk_ BK164) hb); replace HB := hbs_ hb; clear hb; obtain ⟨hcz19, hfz19⟩ := bcf_ BK163; obtain ⟨hcz20, hfz20⟩ := bcf_ BK164))
    repeat (go_quiet (first | (go_at_call 54; (with_reducible refine (spec_CredOk.calls k ((rd_T80 l0 a1).f0.f0) ((rd_T80 l0 a1).f0.f1.f0) ((rd_T80 l0 a1).f0.f1.f1) ((rd_T80 l0 a1).f0.f2) ((rd_T80 l0 a1).f0.f3.f0) ((rd_T80 l0 a1).f0.f3.f1) ((rd_T80 l0 a1).f0.f4.f0) ((rd_T80 l0 a1).f0.f4.f1) ((rd_T80 l0 a1).f0.f5) ((rd_T80 l0 a1).f0.f6) true _ A14.out).mono ?_); rintro e w18 ⟨rfl, hb⟩; replace BK163 := aa_ (blk_below (g := gb163) (o := .cells #[.int .i64 ((rd_T80 l0 a1).f0.f0), .int .i64 ((rd_T80 l0 a1).f0.f1.f0), .int .i64 ((rd_T80 l0 a1).f0.f1.f1), .int .i64 ((rd_T80 l0 a1).f0.f2), .int .i64 ((rd_T80 l0 a1).f0.f3.f0), .int .i64 ((rd_T80 l0 a1).f0.f3.f1), .int .i64 ((rd_T80 l0 a1).f0.f4.f0), .int .i64 ((rd_T80 l0 a1).f0.f4.f1), .int .i64 ((rd_T80 l0 a1).f0.f5), .int .i64 ((rd_T80 l0 a1).f0.f6), .int .i64 ((rd_T80 l0 a1).f1.f0.f0), .int .i64 ((rd_T80 l0 a1).f1.f0.f1), .int .i64 ((rd_T80 l0 a1).f1.f1), .slice A162_13 ((rd_T80 l0 a1).f2).length c162_13] 80 (0, 0)) (bk_ BK163) hb); replace BK164 := aa_ (blk_below (g := gb164) (o := .cells #[.int .i64 ((rd_T80 l0 a1).f0.f0), .int .i64 ((rd_T80 l0 a1).f0.f1.f0), .int .i64 ((rd_T80 l0 a1).f0.f1.f1), .int .i64 ((rd_T80 l0 a1).f0.f2), .int .i64 ((rd_T80 l0 a1).f0.f3.f0), .int .i64 ((rd_T80 l0 a1).f0.f3.f1), .int .i64 ((rd_T80 l0 a1).f0.f4.f0), .int .i64 ((rd_T80 l0 a1).f0.f4.f1), .int .i64 ((rd_T80 l0 a1).f0.f5), .int .i64 ((rd_T80 l0 a1).f0.f6)] 61 (0, 0)) (bk_ BK164) hb); replace HB := hbs_ hb; clear hb; obtain ⟨hcz19, hfz19⟩ := bcf_ BK163; obtain ⟨hcz20, hfz20⟩ := bcf_ BK164)); try go_wp2_with (first | (go_at_call 54; (with_reducible refine (spec_CredOk.calls k ((rd_T80 l0 a1).f0.f0) ((rd_T80 l0 a1).f0.f1.f0) ((rd_T80 l0 a1).f0.f1.f1) ((rd_T80 l0 a1).f0.f2) ((rd_T80 l0 a1).f0.f3.f0) ((rd_T80 l0 a1).f0.f3.f1) ((rd_T80 l0 a1).f0.f4.f0) ((rd_T80 l0 a1).f0.f4.f1) ((rd_T80 l0 a1).f0.f5) ((rd_T80 l0 a1).f0.f6) true _ A14.out).mono ?_); rintro e w18 ⟨rfl, hb⟩; replace BK163 := aa_ (blk_below (g := gb163) (o := .cells #[.int .i64 ((rd_T80 l0 a1).f0.f0), .int .i64 ((rd_T80 l0 a1).f0.f1.f0), .int .i64 ((rd_T80 l0 a1).f0.f1.f1), .int .i64 ((rd_T80 l0 a1).f0.f2), .int .i64 ((rd_T80 l0 a1).f0.f3.f0), .int .i64 ((rd_T80 l0 a1).f0.f3.f1), .int .i64 ((rd_T80 l0 a1).f0.f4.f0), .int .i64 ((rd_T80 l0 a1).f0.f4.f1), .int .i64 ((rd_T80 l0 a1).f0.f5), .int .i64 ((rd_T80 l0 a1).f0.f6), .int .i64 ((rd_T80 l0 a1).f1.f0.f0), .int .i64 ((rd_T80 l0 a1).f1.f0.f1), .int .i64 ((rd_T80 l0 a1).f1.f1), .slice A162_13 ((rd_T80 l0 a1).f2).length c162_13] 80 (0, 0)) (bk_ BK163) hb); replace BK164 := aa_ (blk_below (g := gb164) (o := .cells #[.int .i64 ((rd_T80 l0 a1).f0.f0), .int .i64 ((rd_T80 l0 a1).f0.f1.f0), .int .i64 ((rd_T80 l0 a1).f0.f1.f1), .int .i64 ((rd_T80 l0 a1).f0.f2), .int .i64 ((rd_T80 l0 a1).f0.f3.f0), .int .i64 ((rd_T80 l0 a1).f0.f3.f1), .int .i64 ((rd_T80 l0 a1).f0.f4.f0), .int .i64 ((rd_T80 l0 a1).f0.f4.f1), .int .i64 ((rd_T80 l0 a1).f0.f5), .int .i64 ((rd_T80 l0 a1).f0.f6)] 61 (0, 0)) (bk_ BK164) hb); replace HB := hbs_ hb; clear hb; obtain ⟨hcz19, hfz19⟩ := bcf_ BK163; obtain ⟨hcz20, hfz20⟩ := bcf_ BK164)))
    go_meet
    case rel => exact ⟨_, ((!(((rd_T80 l0 a1).f1.f0.f0) == ((rd_T80 l0 a1).f0.f1.f0)) || (!(((rd_T80 l0 a1).f1.f0.f1) == ((rd_T80 l0 a1).f0.f1.f1))))), rf_, H', ⟨by first | omega | exact Nat.le_refl _⟩, ⟨bk_ BK163⟩, ⟨bk_ BK164⟩, ⟨bl_⟩⟩
   ·replace c15 := Bool.eq_false_iff.mpr c15
    subst c15
    replace H := ite_f_ H
    have H' := aa_ H
    clear H
    have hnb21 := NB164_163.out
    have hnc21 := NB163_164.out
    have hcz22 := blk_cell BK164.out
    have hfz22 := blk_frozen BK164.out
    go_wp2_with (first | (go_at_call 54; (with_reducible refine (spec_CredOk.calls k ((rd_T80 l0 a1).f0.f0) ((rd_T80 l0 a1).f0.f1.f0) ((rd_T80 l0 a1).f0.f1.f1) ((rd_T80 l0 a1).f0.f2) ((rd_T80 l0 a1).f0.f3.f0) ((rd_T80 l0 a1).f0.f3.f1) ((rd_T80 l0 a1).f0.f4.f0) ((rd_T80 l0 a1).f0.f4.f1) ((rd_T80 l0 a1).f0.f5) ((rd_T80 l0 a1).f0.f6) false _ A14.out).mono ?_); rintro e w23 ⟨rfl, hb⟩; replace BK163 := aa_ (blk_below (g := gb163) (o := .cells #[.int .i64 ((rd_T80 l0 a1).f0.f0), .int .i64 ((rd_T80 l0 a1).f0.f1.f0), .int .i64 ((rd_T80 l0 a1).f0.f1.f1), .int .i64 ((rd_T80 l0 a1).f0.f2), .int .i64 ((rd_T80 l0 a1).f0.f3.f0), .int .i64 ((rd_T80 l0 a1).f0.f3.f1), .int .i64 ((rd_T80 l0 a1).f0.f4.f0), .int .i64 ((rd_T80 l0 a1).f0.f4.f1), .int .i64 ((rd_T80 l0 a1).f0.f5), .int .i64 ((rd_T80 l0 a1).f0.f6), .int .i64 ((rd_T80 l0 a1).f1.f0.f0), .int .i64 ((rd_T80 l0 a1).f1.f0.f1), .int .i64 ((rd_T80 l0 a1).f1.f1), .slice A162_13 ((rd_T80 l0 a1).f2).length c162_13] 80 (0, 0)) (bk_ BK163) hb); replace BK164 := aa_ (blk_below (g := gb164) (o := .cells #[.int .i64 ((rd_T80 l0 a1).f0.f0), .int .i64 ((rd_T80 l0 a1).f0.f1.f0), .int .i64 ((rd_T80 l0 a1).f0.f1.f1), .int .i64 ((rd_T80 l0 a1).f0.f2), .int .i64 ((rd_T80 l0 a1).f0.f3.f0), .int .i64 ((rd_T80 l0 a1).f0.f3.f1), .int .i64 ((rd_T80 l0 a1).f0.f4.f0), .int .i64 ((rd_T80 l0 a1).f0.f4.f1), .int .i64 ((rd_T80 l0 a1).f0.f5), .int .i64 ((rd_T80 l0 a1).f0.f6)] 61 (0, 0)) (bk_ BK164) hb); replace HB := hbs_ hb; clear hb))
    repeat (go_quiet (first | (go_at_call 54; (with_reducible refine (spec_CredOk.calls k ((rd_T80 l0 a1).f0.f0) ((rd_T80 l0 a1).f0.f1.f0) ((rd_T80 l0 a1).f0.f1.f1) ((rd_T80 l0 a1).f0.f2) ((rd_T80 l0 a1).f0.f3.f0) ((rd_T80 l0 a1).f0.f3.f1) ((rd_T80 l0 a1).f0.f4.f0) ((rd_T80 l0 a1).f0.f4.f1) ((rd_T80 l0 a1).f0.f5) ((rd_T80 l0 a1).f0.f6) false _ A14.out).mono ?_); rintro e w23 ⟨rfl, hb⟩; replace BK163 := aa_ (blk_below (g := gb163) (o := .cells #[.int .i64 ((rd_T80 l0 a1).f0.f0), .int .i64 ((rd_T80 l0 a1).f0.f1.f0), .int .i64 ((rd_T80 l0 a1).f0.f1.f1), .int .i64 ((rd_T80 l0 a1).f0.f2), .int .i64 ((rd_T80 l0 a1).f0.f3.f0), .int .i64 ((rd_T80 l0 a1).f0.f3.f1), .int .i64 ((rd_T80 l0 a1).f0.f4.f0), .int .i64 ((rd_T80 l0 a1).f0.f4.f1), .int .i64 ((rd_T80 l0 a1).f0.f5), .int .i64 ((rd_T80 l0 a1).f0.f6), .int .i64 ((rd_T80 l0 a1).f1.f0.f0), .int .i64 ((rd_T80 l0 a1).f1.f0.f1), .int .i64 ((rd_T80 l0 a1).f1.f1), .slice A162_13 ((rd_T80 l0 a1).f2).length c162_13] 80 (0, 0)) (bk_ BK163) hb); replace BK164 := aa_ (blk_below (g := gb164) (o := .cells #[.int .i64 ((rd_T80 l0 a1).f0.f0), .int .i64 ((rd_T80 l0 a1).f0.f1.f0), .int .i64 ((rd_T80 l0 a1).f0.f1.f1), .int .i64 ((rd_T80 l0 a1).f0.f2), .int .i64 ((rd_T80 l0 a1).f0.f3.f0), .int .i64 ((rd_T80 l0 a1).f0.f3.f1), .int .i64 ((rd_T80 l0 a1).f0.f4.f0), .int .i64 ((rd_T80 l0 a1).f0.f4.f1), .int .i64 ((rd_T80 l0 a1).f0.f5), .int .i64 ((rd_T80 l0 a1).f0.f6)] 61 (0, 0)) (bk_ BK164) hb); replace HB := hbs_ hb; clear hb)); try go_wp2_with (first | (go_at_call 54; (with_reducible refine (spec_CredOk.calls k ((rd_T80 l0 a1).f0.f0) ((rd_T80 l0 a1).f0.f1.f0) ((rd_T80 l0 a1).f0.f1.f1) ((rd_T80 l0 a1).f0.f2) ((rd_T80 l0 a1).f0.f3.f0) ((rd_T80 l0 a1).f0.f3.f1) ((rd_T80 l0 a1).f0.f4.f0) ((rd_T80 l0 a1).f0.f4.f1) ((rd_T80 l0 a1).f0.f5) ((rd_T80 l0 a1).f0.f6) false _ A14.out).mono ?_); rintro e w23 ⟨rfl, hb⟩; replace BK163 := aa_ (blk_below (g := gb163) (o := .cells #[.int .i64 ((rd_T80 l0 a1).f0.f0), .int .i64 ((rd_T80 l0 a1).f0.f1.f0), .int .i64 ((rd_T80 l0 a1).f0.f1.f1), .int .i64 ((rd_T80 l0 a1).f0.f2), .int .i64 ((rd_T80 l0 a1).f0.f3.f0), .int .i64 ((rd_T80 l0 a1).f0.f3.f1), .int .i64 ((rd_T80 l0 a1).f0.f4.f0), .int .i64 ((rd_T80 l0 a1).f0.f4.f1), .int .i64 ((rd_T80 l0 a1).f0.f5), .int .i64 ((rd_T80 l0 a1).f0.f6), .int .i64 ((rd_T80 l0 a1).f1.f0.f0), .int .i64 ((rd_T80 l0 a1).f1.f0.f1), .int .i64 ((rd_T80 l0 a1).f1.f1), .slice A162_13 ((rd_T80 l0 a1).f2).length c162_13] 80 (0, 0)) (bk_ BK163) hb); replace BK164 := aa_ (blk_below (g := gb164) (o := .cells #[.int .i64 ((rd_T80 l0 a1).f0.f0), .int .i64 ((rd_T80 l0 a1).f0.f1.f0), .int .i64 ((rd_T80 l0 a1).f0.f1.f1), .int .i64 ((rd_T80 l0 a1).f0.f2), .int .i64 ((rd_T80 l0 a1).f0.f3.f0), .int .i64 ((rd_T80 l0 a1).f0.f3.f1), .int .i64 ((rd_T80 l0 a1).f0.f4.f0), .int .i64 ((rd_T80 l0 a1).f0.f4.f1), .int .i64 ((rd_T80 l0 a1).f0.f5), .int .i64 ((rd_T80 l0 a1).f0.f6)] 61 (0, 0)) (bk_ BK164) hb); replace HB := hbs_ hb; clear hb)))
    go_meet
    case rel => exact ⟨_, (true), rf_, H', ⟨by first | omega | exact Nat.le_refl _⟩, ⟨bk_ BK163⟩, ⟨bk_ BK164⟩, ⟨bl_⟩⟩
  case rest =>
   clear HC8
   try clear c1
   try clear p1
   try clear q1
   try clear hx1
   try clear c2
   try clear p2
   try clear c5
   try clear c6
   try clear c6b0
   try clear p6
   try clear c7
   try clear c7b0
   try clear c12
   try clear c15
   try clear c16
   try clear p16
   try clear q16
   try clear hx16
   try clear c21
   try clear hcz10
   try clear hcz13
   try clear hcz17
   try clear hcz19
   try clear hcz20
   try clear hcz22
   try clear hfz10
   try clear hfz13
   try clear hfz17
   try clear hfz19
   try clear hfz20
   try clear hfz22
   try clear hx162_0
   try clear hx162_1
   try clear hx162_10
   try clear hx162_11
   try clear hx162_12
   try clear hx162_13
   try clear hx162_2
   try clear hx162_3
   try clear hx162_4
   try clear hx162_5
   try clear hx162_6
   try clear hx162_7
   try clear hx162_8
   try clear hx162_9
   try clear p162
   try clear q162
   obtain ⟨kq, x31_7, rfl, HA, HJ7, BK163, BK164, HB⟩ := hcut
   cases kq with
   | zero => exact absurd HA.out (by simp [spec_StepOk.j0])
   | succ kj7 =>
    have H := HA.out
    clear HA
    simp only [spec_StepOk.j0] at H
    by_cases c24 : x31_7 = true
    ·subst c24
     replace H := ite_t_ H
     obtain rfl := Option.some.inj H
     go_wp2
     repeat (go_quiet (fail); try go_wp2)
     go_ret
     exact ⟨eq_, bl_⟩
    ·replace c24 := Bool.eq_false_iff.mpr c24
     subst c24
     replace H := ite_f_ H
     have H' := aa_ H
     clear H
     go_wp2
     repeat (go_quiet (fail); try go_wp2)
     go_loopg [7] kj7 (fun kq v7 w' => ∃ (x7_2 : Int), v7 = .int .i64 x7_2 ∧ Aside0 (spec_StepOk.l0 kq l0 a1 x7_2 ((rd_T80 l0 a1).f0.f0) ((rd_T80 l0 a1).f0.f1.f0) ((rd_T80 l0 a1).f0.f1.f1) ((rd_T80 l0 a1).f0.f2) ((rd_T80 l0 a1).f0.f3.f0) ((rd_T80 l0 a1).f0.f3.f1) ((rd_T80 l0 a1).f0.f4.f0) ((rd_T80 l0 a1).f0.f4.f1) ((rd_T80 l0 a1).f0.f5) ((rd_T80 l0 a1).f0.f6) ((rd_T80 l0 a1).f1.f0.f0) ((rd_T80 l0 a1).f1.f0.f1) ((rd_T80 l0 a1).f1.f1) ((rd_T80 l0 a1).f2) ((rd_T80 l0 a1).f0.f0) ((rd_T80 l0 a1).f0.f1.f0) ((rd_T80 l0 a1).f0.f1.f1) ((rd_T80 l0 a1).f0.f2) ((rd_T80 l0 a1).f0.f3.f0) ((rd_T80 l0 a1).f0.f3.f1) ((rd_T80 l0 a1).f0.f4.f0) ((rd_T80 l0 a1).f0.f4.f1) ((rd_T80 l0 a1).f0.f5) ((rd_T80 l0 a1).f0.f6) = some r) ∧ Aside0 (kq ≤ kj7) ∧ Aside0 (w'.heap[gb163]? = some (.cells #[.int .i64 ((rd_T80 l0 a1).f0.f0), .int .i64 ((rd_T80 l0 a1).f0.f1.f0), .int .i64 ((rd_T80 l0 a1).f0.f1.f1), .int .i64 ((rd_T80 l0 a1).f0.f2), .int .i64 ((rd_T80 l0 a1).f0.f3.f0), .int .i64 ((rd_T80 l0 a1).f0.f3.f1), .int .i64 ((rd_T80 l0 a1).f0.f4.f0), .int .i64 ((rd_T80 l0 a1).f0.f4.f1), .int .i64 ((rd_T80 l0 a1).f0.f5), .int .i64 ((rd_T80 l0 a1).f0.f6), .int .i64 ((rd_T80 l0 a1).f1.f0.f0), .int .i64 ((rd_T80 l0 a1).f1.f0.f1), .int .i64 ((rd_T80 l0 a1).f1.f1), (.slice A162_13 ((rd_T80 l0 a1).f2).length c162_13)] 80 (0, 0))) ∧ Aside0 (w'.heap[gb164]? = some (.cells #[.int .i64 ((rd_T80 l0 a1).f0.f0), .int .i64 ((rd_T80 l0 a1).f0.f1.f0), .int .i64 ((rd_T80 l0 a1).f0.f1.f1), .int .i64 ((rd_T80 l0 a1).f0.f2), .int .i64 ((rd_T80 l0 a1).f0.f3.f0), .int .i64 ((rd_T80 l0 a1).f0.f3.f1), .int .i64 ((rd_T80 l0 a1).f0.f4.f0), .int .i64 ((rd_T80 l0 a1).f0.f4.f1), .int .i64 ((rd_T80 l0 a1).f0.f5), .int .i64 ((rd_T80 l0 a1).f0.f6)] 61 (0, 0))) ∧ Aside0 (Below w.heap.size w w'))
     case atStart => exact ⟨(0), rf_, H', ⟨Nat.le_refl _⟩, ⟨bk_ BK163⟩, ⟨bk_ BK164⟩, ⟨bl_⟩⟩
     case round =>
      clear H'
      try clear c1
      try clear p1
      try clear q1
      try clear hx1
      try clear c2
      try clear p2
      try clear c5
      try clear c6
      try clear c6b0
      try clear p6
      try clear c7
      try clear c7b0
      try clear c12
      try clear c15
      try clear c16
      try clear p16
      try clear q16
      try clear hx16
      try clear c21
      try clear c24
      try clear hcz10
      try clear hcz13
      try clear hcz17
      try clear hcz19
      try clear hcz20
      try clear hcz22
      try clear hfz10
      try clear hfz13
      try clear hfz17
      try clear hfz19
      try clear hfz20
      try clear hfz22
      try clear hx162_0
      try clear hx162_1
      try clear hx162_10
      try clear hx162_11
      try clear hx162_12
      try clear hx162_13
      try clear hx162_2
      try clear hx162_3
      try clear hx162_4
      try clear hx162_5
      try clear hx162_6
      try clear hx162_7
      try clear hx162_8
      try clear hx162_9
      try clear p1
      try clear p16
      try clear p162
      try clear p2
      try clear p6
      try clear q1
      try clear q16
      try clear q162
      obtain ⟨x7_2, rfl, HA, HK2, BK163, BK164, HB⟩ := hrel
      cases gk with
      | zero => exact absurd HA.out (by simp [spec_StepOk.l0])
      | succ k2 =>
       have H := HA.out
       clear HA
       simp only [spec_StepOk.l0] at H
       by_cases c25 : x7_2 < (((rd_T80 l0 a1).f2).length : Int)
       ·rw [if_pos c25] at H
        have c25b0 : decide (x7_2 < (((rd_T80 l0 a1).f2).length : Int)) = true := decide_eq_true c25
        clear c25
        obtain ⟨c26b0, H⟩ := ifd_ H
        obtain ⟨t167, A27, H⟩ := bindE_ H
        have HC28 := aa_ H
        clear H
        have hnb29 := NB163_164.out
        have hnc29 := NB164_163.out
        have hcz30 := blk_cell BK163.out
        have hfz30 := blk_frozen BK163.out
        have p166 : 0 ≤ (x7_2 : Int) := od_
        have q166 : x7_2 < (((rd_T80 l0 a1).f2).length : Int) := od_
        obtain ⟨ad166, e166, hx166_0⟩ := Kd.at_int (Kd.C_below HR162_13.out HB.out) x7_2 p166 q166
        cases e166
        replace p166 := eq_true p166
        replace q166 := eq_true q166
        go_upto_if 47 with (first | (go_at_call 52; (with_reducible refine (spec_l01In.calls (rd ((rd_T80 l0 a1).f2) x7_2) 0 (wrap64 (a1 - 1)) t167 _ A27.out).mono ?_); rintro e w' ⟨rfl, ⟨nd, rfl⟩⟩; (try first | exact ⟨rfl, _, World.drewN_drewN _ _ _⟩ | exact ⟨rfl, _, Eq.trans (World.drewN_drewN _ _ _) (congrArg (World.drewN _) (Nat.add_assoc _ _ _))⟩)))
        repeat (go_quiet (first | (go_at_call 52; (with_reducible refine (spec_l01In.calls (rd ((rd_T80 l0 a1).f2) x7_2) 0 (wrap64 (a1 - 1)) t167 _ A27.out).mono ?_); rintro e w' ⟨rfl, ⟨nd, rfl⟩⟩; (try first | exact ⟨rfl, _, World.drewN_drewN _ _ _⟩ | exact ⟨rfl, _, Eq.trans (World.drewN_drewN _ _ _) (congrArg (World.drewN _) (Nat.add_assoc _ _ _))⟩))); go_upto_if 47 with (first | (go_at_call 52; (with_reducible refine (spec_l01In.calls (rd ((rd_T80 l0 a1).f2) x7_2) 0 (wrap64 (a1 - 1)) t167 _ A27.out).mono ?_); rintro e w' ⟨rfl, ⟨nd, rfl⟩⟩; (try first | exact ⟨rfl, _, World.drewN_drewN _ _ _⟩ | exact ⟨rfl, _, Eq.trans (World.drewN_drewN _ _ _) (congrArg (World.drewN _) (Nat.add_assoc _ _ _))⟩))))
        (try simp only [Act.put, List.setIfInBounds_toArray, List.set_cons_zero, List.set_cons_succ])
        have H := HC28.out
        clear HC28
        by_cases c31 : t167 = true
        ·subst c31
         replace H := ite_t_ H
         have H' := aa_ H
         clear H
         go_wp2
         repeat (go_quiet (fail); try go_wp2)
         go_roundg k2
         case measure => have := HJ7.out; have := HK2.out; omega
         case rel => exact ⟨(wrap64 (x7_2 + 1)), rf_, H', ⟨by have := HJ7.out; have := HK2.out; omega⟩, ⟨bk_ BK163⟩, ⟨bk_ BK164⟩, ⟨bl_⟩⟩
        ·replace c31 := Bool.eq_false_iff.mpr c31
         subst c31
         replace H := ite_f_ H
         obtain rfl := Option.some.inj H
         go_wp2
         repeat (go_quiet (fail); try go_wp2)
         go_ret
         exact ⟨eq_, bl_⟩
       ·rw [if_neg c25] at H
        have c25b0 : decide (x7_2 < (((rd_T80 l0 a1).f2).length : Int)) = false := decide_eq_false c25
        clear c25
        by_cases c32 : ((rd_T80 l0 a1).f0.f0) = 1
        ·rw [if_pos c32] at H
         have c32b0 : (((rd_T80 l0 a1).f0.f0) == 1) = true := beq_iff_eq.mpr c32
         have c32b1 : (((rd_T80 l0 a1).f0.f0) != 1) = false := bne_eq_false_iff_eq.mpr c32
         clear c32
         by_cases c33 : ((rd_T80 l0 a1).f1.f1) = ((rd_T80 l0 a1).f0.f2)
         ·rw [if_pos c33] at H
          have c33b0 : (((rd_T80 l0 a1).f1.f1) == ((rd_T80 l0 a1).f0.f2)) = true := beq_iff_eq.mpr c33
          have c33b1 : (((rd_T80 l0 a1).f1.f1) != ((rd_T80 l0 a1).f0.f2)) = false := bne_eq_false_iff_eq.mpr c33
          clear c33
          obtain rfl := Option.some.inj H
          have hnb34 := NB163_164.out
          have hnc34 := NB164_163.out
          have hcz35 := blk_cell BK163.out
          have hfz35 := blk_frozen BK163.out
          have hcz36 := blk_cell BK164.out
          have hfz36 := blk_frozen BK164.out
          go_wp2
          repeat (go_quiet (fail); try go_wp2)
          go_ret
          exact ⟨eq_, bl_⟩
         ·rw [if_neg c33] at H
          have c33b0 : (((rd_T80 l0 a1).f1.f1) == ((rd_T80 l0 a1).f0.f2)) = false := beq_eq_false_iff_ne.mpr c33
          have c33b1 : (((rd_T80 l0 a1).f1.f1) != ((rd_T80 l0 a1).f0.f2)) = true := bne_iff_ne.mpr c33
          obtain rfl := Option.some.inj H
          have hnb37 := NB163_164.out
          have hnc37 := NB164_163.out
          have hcz38 := blk_cell BK163.out
          have hfz38 := blk_frozen BK163.out
          have hcz39 := blk_cell BK164.out
          have hfz39 := blk_frozen BK164.out
          go_wp2
          repeat (go_quiet (fail); try go_wp2)
          go_ret
          exact ⟨eq_, bl_⟩
        ·rw [if_neg c32] at H
         have c32b0 : (((rd_T80 l0 a1).f0.f0) == 1) = false := beq_eq_false_iff_ne.mpr c32
         have c32b1 : (((rd_T80 l0 a1).f0.f0) != 1) = true := bne_iff_ne.mpr c32
         by_cases c40 : ((rd_T80 l0 a1).f0.f0) = 2
         ·rw [if_pos c40] at H
          have c40b0 : (((rd_T80 l0 a1).f0.f0) == 2) = true := beq_iff_eq.mpr c40
          have c40b1 : (((rd_T80 l0 a1).f0.f0) != 2) = false := bne_eq_false_iff_eq.mpr c40
          clear c40
          by_cases c41 : (((rd_T80 l0 a1).f2).length : Int) = 1
          ·rw [if_pos c41] at H
           have c41b0 : ((((rd_T80 l0 a1).f2).length : Int) == 1) = true := beq_iff_eq.mpr c41
           have c41b1 : ((((rd_T80 l0 a1).f2).length : Int) != 1) = false := bne_eq_false_iff_eq.mpr c41
           clear c41
           obtain ⟨t168, A42, H⟩ := bindE_ H
           obtain rfl := Option.some.inj H
           have hnb43 := NB163_164.out
           have hnc43 := NB164_163.out
           have hcz44 := blk_cell BK163.out
           have hfz44 := blk_frozen BK163.out
           have hcz45 := blk_cell BK164.out
           have hfz45 := blk_frozen BK164.out
           go_wp2_with (first | (go_at_call 66; (with_reducible refine (spec_l07Shown.calls k2 _ _ l0 a1 ((rd_T80 l0 a1).f0.f3.f0) ((rd_T80 l0 a1).f0.f3.f1) ((rd_T80 l0 a1).f1.f1) t168 _ ?side1 ?side2 A42.out).mono ?_); (case side1 => repeat (first | exact (Kd.C_below HR0.out HB.out) | (with_reducible refine Kd.C_alloc ?_ _) | (with_reducible refine Kd.C_drewN ?_ _) | (with_reducible refine Kd.C_drew ?_))); (case side2 => exact HC0.out); rintro e w46 ⟨rfl, hb⟩; replace BK163 := bkb_ BK163 hb; replace BK164 := bkb_ BK164 hb; replace HB := hbs_ hb; clear hb))
           repeat (go_quiet (first | (go_at_call 66; (with_reducible refine (spec_l07Shown.calls k2 _ _ l0 a1 ((rd_T80 l0 a1).f0.f3.f0) ((rd_T80 l0 a1).f0.f3.f1) ((rd_T80 l0 a1).f1.f1) t168 _ ?side1 ?side2 A42.out).mono ?_); (case side1 => repeat (first | exact (Kd.C_below HR0.out HB.out) | (with_reducible refine Kd.C_alloc ?_ _) | (with_reducible refine Kd.C_drewN ?_ _) | (with_reducible refine Kd.C_drew ?_))); (case side2 => exact HC0.out); rintro e w46 ⟨rfl, hb⟩; replace BK163 := bkb_ BK163 hb; replace BK164 := bkb_ BK164 hb; replace HB := hbs_ hb; clear hb)); try go_wp2_with (first | (go_at_call 66; (with_reducible refine (spec_l07Shown.calls k2 _ _ l0 a1 ((rd_T80 l0 a1).f0.f3.f0) ((rd_T80 l0 a1).f0.f3.f1) ((rd_T80 l0 a1).f1.f1) t168 _ ?side1 ?side2 A42.out).mono ?_); (case side1 => repeat (first | exact (Kd.C_below HR0.out HB.out) | (with_reducible refine Kd.C_alloc ?_ _) | (with_reducible refine Kd.C_drewN ?_ _) | (with_reducible refine Kd.C_drew ?_))); (case side2 => exact HC0.out); rintro e w46 ⟨rfl, hb⟩; replace BK163 := bkb_ BK163 hb; replace BK164 := bkb_ BK164 hb; replace HB := hbs_ hb; clear hb)))
           go_ret
           exact ⟨eq_, bl_⟩
          ·rw [if_neg c41] at H
           have c41b0 : ((((rd_T80 l0 a1).f2).length : Int) == 1) = false := beq_eq_false_iff_ne.mpr c41
           have c41b1 : ((((rd_T80 l0 a1).f2).length : Int) != 1) = true := bne_iff_ne.mpr c41
           obtain rfl := Option.some.inj H
           have hnb47 := NB163_164.out
           have hnc47 := NB164_163.out
           have hcz48 := blk_cell BK163.out
           have hfz48 := blk_frozen BK163.out
           have hcz49 := blk_cell BK164.out
           have hfz49 := blk_frozen BK164.out
           go_wp2
           repeat (go_quiet (fail); try go_wp2)
           go_ret
           exact ⟨eq_, bl_⟩
         ·rw [if_neg c40] at H
          have c40b0 : (((rd_T80 l0 a1).f0.f0) == 2) = false := beq_eq_false_iff_ne.mpr c40
          have c40b1 : (((rd_T80 l0 a1).f0.f0) != 2) = true := bne_iff_ne.mpr c40
          by_cases c50 : ((rd_T80 l0 a1).f0.f0) = 4
          ·rw [if_pos c50] at H
           have c50b0 : (((rd_T80 l0 a1).f0.f0) == 4) = true := beq_iff_eq.mpr c50
           have c50b1 : (((rd_T80 l0 a1).f0.f0) != 4) = false := bne_eq_false_iff_eq.mpr c50
           clear c50
           by_cases c51 : (((rd_T80 l0 a1).f2).length : Int) = 2
           ·rw [if_pos c51] at H
            have c51b0 : ((((rd_T80 l0 a1).f2).length : Int) == 2) = true := beq_iff_eq.mpr c51
            have c51b1 : ((((rd_T80 l0 a1).f2).length : Int) != 2) = false := bne_eq_false_iff_eq.mpr c51
            clear c51
            obtain ⟨c52, H⟩ := ifn_ H
            have c52b0 : decide (0 < (((rd_T80 l0 a1).f2).length : Int)) = true := decide_eq_true c52
            have c52b1 : decide (0 < ((rd_T80 l0 a1).f2).length) = true := decide_eq_true (by omega)
            clear c52
            obtain ⟨c53b0, H⟩ := ifd_ H
            obtain ⟨c54b0, H⟩ := ifd_ H
            by_cases c55 : ((((rd_T80 l0 (rd ((rd_T80 l0 a1).f2) 0)).f1.f0.f0) == ((rd_T80 l0 a1).f0.f3.f0) && (((rd_T80 l0 (rd ((rd_T80 l0 a1).f2) 0)).f1.f0.f1) == ((rd_T80 l0 a1).f0.f3.f1))) && (((rd_T80 l0 (rd ((rd_T80 l0 a1).f2) 0)).f1.f1) == ((rd_T80 l0 a1).f1.f1))) = true
            ·rw [if_pos c55] at H
             have c55b0 : ((((rd_T80 l0 (rd ((rd_T80 l0 a1).f2) 0)).f1.f0.f0) == ((rd_T80 l0 a1).f0.f3.f0) && (((rd_T80 l0 (rd ((rd_T80 l0 a1).f2) 0)).f1.f0.f1) == ((rd_T80 l0 a1).f0.f3.f1))) && (((rd_T80 l0 (rd ((rd_T80 l0 a1).f2) 0)).f1.f1) == ((rd_T80 l0 a1).f1.f1))) = true := c55
             clear c55
             obtain ⟨c56, H⟩ := ifn_ H
             have c56b0 : decide (1 < (((rd_T80 l0 a1).f2).length : Int)) = true := decide_eq_true c56
             have c56b1 : decide (1 < ((rd_T80 l0 a1).f2).length) = true := decide_eq_true (by omega)
             clear c56
             obtain ⟨c57b0, H⟩ := ifd_ H
             obtain ⟨c58b0, H⟩ := ifd_ H
             obtain rfl := Option.some.inj H
             have hnb59 := NB163_164.out
             have hnc59 := NB164_163.out
             have hcz60 := blk_cell BK163.out
             have hfz60 := blk_frozen BK163.out
             have hcz61 := blk_cell BK164.out
             have hfz61 := blk_frozen BK164.out
             have p169 : 0 ≤ (0 : Int) := (by omega)
             have q169 : 0 < (((rd_T80 l0 a1).f2).length : Int) := od_
             obtain ⟨ad169, e169, hx169_0⟩ := Kd.at_int HR162_13.out 0 p169 q169
             cases e169
             have qi169 : (0 < ((rd_T80 l0 a1).f2).length) = True := eq_true (by omega)
             (try rw [show ((0 : Int)).toNat = 0 from rfl] at hx169_0)
             (try rw [Addr.add_zero'] at hx169_0)
             replace hx169_0 := cb_ HB hx169_0
             replace p169 := eq_true p169
             replace q169 := eq_true q169
             have p170 : 0 ≤ ((rd ((rd_T80 l0 a1).f2) 0) : Int) := od_
             have q170 : (rd ((rd_T80 l0 a1).f2) 0) < (l0.length : Int) := od_
             obtain ⟨ad170, A170_13, c170_13, e170, hx170_0, hx170_1, hx170_2, hx170_3, hx170_4, hx170_5, hx170_6, hx170_7, hx170_8, hx170_9, hx170_10, hx170_11, hx170_12, hx170_13, hl170_13, hi170_13⟩ := at_T80 HR0.out (rd ((rd_T80 l0 a1).f2) 0) p170 q170
             obtain rfl : ad162 = ad170 := (by injection e170)
             replace hx170_0 := cb_ HB hx170_0
             replace hx170_1 := cb_ HB hx170_1
             replace hx170_2 := cb_ HB hx170_2
             replace hx170_3 := cb_ HB hx170_3
             replace hx170_4 := cb_ HB hx170_4
             replace hx170_5 := cb_ HB hx170_5
             replace hx170_6 := cb_ HB hx170_6
             replace hx170_7 := cb_ HB hx170_7
             replace hx170_8 := cb_ HB hx170_8
             replace hx170_9 := cb_ HB hx170_9
             replace hx170_10 := cb_ HB hx170_10
             replace hx170_11 := cb_ HB hx170_11
             replace hx170_12 := cb_ HB hx170_12
             replace hx170_13 := cb_ HB hx170_13
             have HR170_13 := aa_ hi170_13
             have HC170_13 := aa_ hl170_13
             clear hi170_13 hl170_13
             replace p170 := eq_true p170
             replace q170 := eq_true q170
             have p171 : 0 ≤ (1 : Int) := (by omega)
             have q171 : 1 < (((rd_T80 l0 a1).f2).length : Int) := od_
             obtain ⟨ad171, e171, hx171_0⟩ := Kd.at_int HR162_13.out 1 p171 q171
             obtain rfl : ad169 = ad171 := (by injection e171)
             (try simp only [show (1 : Int).toNat = 1 from rfl, Nat.reduceMul, Nat.reduceEqDiff, Go.Addr.add, ↓reduceIte] at hx171_0)
             have qi171 : (1 < ((rd_T80 l0 a1).f2).length) = True := eq_true (by omega)
             (try rw [show ((1 : Int)).toNat = 1 from rfl] at hx171_0)
             replace hx171_0 := cb_ HB hx171_0
             replace p171 := eq_true p171
             replace q171 := eq_true q171
             have p172 : 0 ≤ ((rd ((rd_T80 l0 a1).f2) 1) : Int) := od_
             have q172 : (rd ((rd_T80 l0 a1).f2) 1) < (l0.length : Int) := od_
             obtain ⟨ad172, A172_13, c172_13, e172, hx172_0, hx172_1, hx172_2, hx172_3, hx172_4, hx172_5, hx172_6, hx172_7, hx172_8, hx172_9, hx172_10, hx172_11, hx172_12, hx172_13, hl172_13, hi172_13⟩ := at_T80 HR0.out (rd ((rd_T80 l0 a1).f2) 1) p172 q172
             obtain rfl : ad162 = ad172 := (by injection e172)
             replace hx172_0 := cb_ HB hx172_0
             replace hx172_1 := cb_ HB hx172_1
             replace hx172_2 := cb_ HB hx172_2
             replace hx172_3 := cb_ HB hx172_3
             replace hx172_4 := cb_ HB hx172_4
             replace hx172_5 := cb_ HB hx172_5
             replace hx172_6 := cb_ HB hx172_6
             replace hx172_7 := cb_ HB hx172_7
             replace hx172_8 := cb_ HB hx172_8
             replace hx172_9 := cb_ HB hx172_9
             replace hx172_10 := cb_ HB hx172_10
             replace hx172_11 := cb_ HB hx172_11
             replace hx172_12 := cb_ HB hx172_12
             replace hx172_13 := cb_ HB hx172_13
             have HR172_13 := aa_ hi172_13
             have HC172_13 := aa_ hl172_13
             clear hi172_13 hl172_13
             replace p172 := eq_true p172
             replace q172 := eq_true q172
             go_wp2
             repeat (go_quiet (fail); try go_wp2)
             go_ret
             exact ⟨eq_, bl_⟩
            ·rw [if_neg c55] at H
             have c55b0 : ((((rd_T80 l0 (rd ((rd_T80 l0 a1).f2) 0)).f1.f0.f0) == ((rd_T80 l0 a1).f0.f3.f0) && (((rd_T80 l0 (rd ((rd_T80 l0 a1).f2) 0)).f1.f0.f1) == ((rd_T80 l0 a1).f0.f3.f1))) && (((rd_T80 l0 (rd ((rd_T80 l0 a1).f2) 0)).f1.f1) == ((rd_T80 l0 a1).f1.f1))) = false := by simpa using c55
             clear c55
             obtain rfl := Option.some.inj H
             have hnb62 := NB163_164.out
             have hnc62 := NB164_163.out
             have hcz63 := blk_cell BK163.out
             have hfz63 := blk_frozen BK163.out
             have hcz64 := blk_cell BK164.out
             have hfz64 := blk_frozen BK164.out
             have p169 : 0 ≤ (0 : Int) := (by omega)
             have q169 : 0 < (((rd_T80 l0 a1).f2).length : Int) := od_
             obtain ⟨ad169, e169, hx169_0⟩ := Kd.at_int HR162_13.out 0 p169 q169
             cases e169
             have qi169 : (0 < ((rd_T80 l0 a1).f2).length) = True := eq_true (by omega)
             (try rw [show ((0 : Int)).toNat = 0 from rfl] at hx169_0)
             (try rw [Addr.add_zero'] at hx169_0)
             replace hx169_0 := cb_ HB hx169_0
             replace p169 := eq_true p169
             replace q169 := eq_true q169
             have p170 : 0 ≤ ((rd ((rd_T80 l0 a1).f2) 0) : Int) := od_
             have q170 : (rd ((rd_T80 l0 a1).f2) 0) < (l0.length : Int) := od_
             obtain ⟨ad170, A170_13, c170_13, e170, hx170_0, hx170_1, hx170_2, hx170_3, hx170_4, hx170_5, hx170_6, hx170_7, hx170_8, hx170_9, hx170_10, hx170_11, hx170_12, hx170_13, hl170_13, hi170_13⟩ := at_T80 HR0.out (rd ((rd_T80 l0 a1).f2) 0) p170 q170
             obtain rfl : ad162 = ad170 := (by injection e170)
             replace hx170_0 := cb_ HB hx170_0
             replace hx170_1 := cb_ HB hx170_1
             replace hx170_2 := cb_ HB hx170_2
             replace hx170_3 := cb_ HB hx170_3
             replace hx170_4 := cb_ HB hx170_4
             replace hx170_5 := cb_ HB hx170_5
             replace hx170_6 := cb_ HB hx170_6
             replace hx170_7 := cb_ HB hx170_7
             replace hx170_8 := cb_ HB hx170_8
             replace hx170_9 := cb_ HB hx170_9
             replace hx170_10 := cb_ HB hx170_10
             replace hx170_11 := cb_ HB hx170_11
             replace hx170_12 := cb_ HB hx170_12
             replace hx170_13 := cb_ HB hx170_13
             have HR170_13 := aa_ hi170_13
             have HC170_13 := aa_ hl170_13
             clear hi170_13 hl170_13
             replace p170 := eq_true p170
             replace q170 := eq_true q170
             go_wp2
             repeat (go_quiet (fail); try go_wp2)
             go_ret
             exact ⟨eq_, bl_⟩
           ·rw [if_neg c51] at H
            have c51b0 : ((((rd_T80 l0 a1).f2).length : Int) == 2) = false := beq_eq_false_iff_ne.mpr c51
            have c51b1 : ((((rd_T80 l0 a1).f2).length : Int) != 2) = true := bne_iff_ne.mpr c51
            obtain rfl := Option.some.inj H
            have hnb65 := NB163_164.out
            have hnc65 := NB164_163.out
            have hcz66 := blk_cell BK163.out
            have hfz66 := blk_frozen BK163.out
            have hcz67 := blk_cell BK164.out
            have hfz67 := blk_frozen BK164.out
            go_wp2
            repeat (go_quiet (fail); try go_wp2)
            go_ret
            exact ⟨eq_, bl_⟩
          ·rw [if_neg c50] at H
           have c50b0 : (((rd_T80 l0 a1).f0.f0) == 4) = false := beq_eq_false_iff_ne.mpr c50
           have c50b1 : (((rd_T80 l0 a1).f0.f0) != 4) = true := bne_iff_ne.mpr c50
           by_cases c68 : (((rd_T80 l0 a1).f2).length : Int) = 2
           ·rw [if_pos c68] at H
            have c68b0 : ((((rd_T80 l0 a1).f2).length : Int) == 2) = true := beq_iff_eq.mpr c68
            have c68b1 : ((((rd_T80 l0 a1).f2).length : Int) != 2) = false := bne_eq_false_iff_eq.mpr c68
            clear c68
            obtain ⟨c69, H⟩ := ifn_ H
            have c69b0 : decide (0 < (((rd_T80 l0 a1).f2).length : Int)) = true := decide_eq_true c69
            have c69b1 : decide (0 < ((rd_T80 l0 a1).f2).length) = true := decide_eq_true (by omega)
            clear c69
            obtain ⟨c70b0, H⟩ := ifd_ H
            obtain ⟨c71b0, H⟩ := ifd_ H
            have HC72 := aa_ H
            clear H
            have hnb73 := NB163_164.out
            have hnc73 := NB164_163.out
            have hcz74 := blk_cell BK163.out
            have hfz74 := blk_frozen BK163.out
            have hcz75 := blk_cell BK164.out
            have hfz75 := blk_frozen BK164.out
            have p173 : 0 ≤ (0 : Int) := (by omega)
            have q173 : 0 < (((rd_T80 l0 a1).f2).length : Int) := od_
            obtain ⟨ad173, e173, hx173_0⟩ := Kd.at_int HR162_13.out 0 p173 q173
            cases e173
            have qi173 : (0 < ((rd_T80 l0 a1).f2).length) = True := eq_true (by omega)
            (try rw [show ((0 : Int)).toNat = 0 from rfl] at hx173_0)
            (try rw [Addr.add_zero'] at hx173_0)
            replace hx173_0 := cb_ HB hx173_0
            replace p173 := eq_true p173
            replace q173 := eq_true q173
            have p174 : 0 ≤ ((rd ((rd_T80 l0 a1).f2) 0) : Int) := od_
            have q174 : (rd ((rd_T80 l0 a1).f2) 0) < (l0.length : Int) := od_
            obtain ⟨ad174, A174_13, c174_13, e174, hx174_0, hx174_1, hx174_2, hx174_3, hx174_4, hx174_5, hx174_6, hx174_7, hx174_8, hx174_9, hx174_10, hx174_11, hx174_12, hx174_13, hl174_13, hi174_13⟩ := at_T80 HR0.out (rd ((rd_T80 l0 a1).f2) 0) p174 q174
            obtain rfl : ad162 = ad174 := (by injection e174)
            replace hx174_0 := cb_ HB hx174_0
            replace hx174_1 := cb_ HB hx174_1
            replace hx174_2 := cb_ HB hx174_2
            replace hx174_3 := cb_ HB hx174_3
            replace hx174_4 := cb_ HB hx174_4
            replace hx174_5 := cb_ HB hx174_5
            replace hx174_6 := cb_ HB hx174_6
            replace hx174_7 := cb_ HB hx174_7
            replace hx174_8 := cb_ HB hx174_8
            replace hx174_9 := cb_ HB hx174_9
            replace hx174_10 := cb_ HB hx174_10
            replace hx174_11 := cb_ HB hx174_11
            replace hx174_12 := cb_ HB hx174_12
            replace hx174_13 := cb_ HB hx174_13
            have HR174_13 := aa_ hi174_13
            have HC174_13 := aa_ hl174_13
            clear hi174_13 hl174_13
            replace p174 := eq_true p174
            replace q174 := eq_true q174
            go_upto_if 138 with (fail)
            repeat (go_quiet (fail); go_upto_if 138 with (fail))
            have H := HC72.out
            clear HC72
            by_cases c76 : (!(((rd_T80 l0 (rd ((rd_T80 l0 a1).f2) 0)).f1.f0.f0) == ((rd_T80 l0 a1).f0.f3.f0)) || (!(((rd_T80 l0 (rd ((rd_T80 l0 a1).f2) 0)).f1.f0.f1) == ((rd_T80 l0 a1).f0.f3.f1)))) = true
            ·rw [if_pos c76] at H
             have c76b0 : (!(((rd_T80 l0 (rd ((rd_T80 l0 a1).f2) 0)).f1.f0.f0) == ((rd_T80 l0 a1).f0.f3.f0)) || (!(((rd_T80 l0 (rd ((rd_T80 l0 a1).f2) 0)).f1.f0.f1) == ((rd_T80 l0 a1).f0.f3.f1)))) = true := c76
             clear c76
             (first | rw [c76b0] | (simp only [i64_w, i32_w]; rw [c76b0]) | skip)
             obtain rfl := Option.some.inj H
             go_wp2
             repeat (go_quiet (fail); try go_wp2)
             go_ret
             exact ⟨eq_, bl_⟩
            ·rw [if_neg c76] at H
             have c76b0 : (!(((rd_T80 l0 (rd ((rd_T80 l0 a1).f2) 0)).f1.f0.f0) == ((rd_T80 l0 a1).f0.f3.f0)) || (!(((rd_T80 l0 (rd ((rd_T80 l0 a1).f2) 0)).f1.f0.f1) == ((rd_T80 l0 a1).f0.f3.f1)))) = false := by simpa using c76
             clear c76
             (first | rw [c76b0] | (simp only [i64_w, i32_w]; rw [c76b0]) | skip)
             obtain ⟨c77, H⟩ := ifn_ H
             have c77b0 : decide (1 < (((rd_T80 l0 a1).f2).length : Int)) = true := decide_eq_true c77
             have c77b1 : decide (1 < ((rd_T80 l0 a1).f2).length) = true := decide_eq_true (by omega)
             clear c77
             obtain ⟨c78b0, H⟩ := ifd_ H
             obtain ⟨c79b0, H⟩ := ifd_ H
             obtain rfl := Option.some.inj H
             have hnb80 := NB163_164.out
             have hnc80 := NB164_163.out
             have hcz81 := blk_cell BK163.out
             have hfz81 := blk_frozen BK163.out
             have p175 : 0 ≤ (0 : Int) := (by omega)
             have q175 : 0 < (((rd_T80 l0 a1).f2).length : Int) := od_
             obtain ⟨ad175, e175, hx175_0⟩ := Kd.at_int HR162_13.out 0 p175 q175
             obtain rfl : ad173 = ad175 := (by injection e175)
             have qi175 : (0 < ((rd_T80 l0 a1).f2).length) = True := eq_true (by omega)
             (try rw [show ((0 : Int)).toNat = 0 from rfl] at hx175_0)
             (try rw [Addr.add_zero'] at hx175_0)
             replace hx175_0 := cb_ HB hx175_0
             replace p175 := eq_true p175
             replace q175 := eq_true q175
             have p176 : 0 ≤ ((rd ((rd_T80 l0 a1).f2) 0) : Int) := od_
             have q176 : (rd ((rd_T80 l0 a1).f2) 0) < (l0.length : Int) := od_
             obtain ⟨ad176, A176_13, c176_13, e176, hx176_0, hx176_1, hx176_2, hx176_3, hx176_4, hx176_5, hx176_6, hx176_7, hx176_8, hx176_9, hx176_10, hx176_11, hx176_12, hx176_13, hl176_13, hi176_13⟩ := at_T80 HR0.out (rd ((rd_T80 l0 a1).f2) 0) p176 q176
             obtain rfl : ad162 = ad176 := (by injection e176)
             replace hx176_0 := cb_ HB hx176_0
             replace hx176_1 := cb_ HB hx176_1
             replace hx176_2 := cb_ HB hx176_2
             replace hx176_3 := cb_ HB hx176_3
             replace hx176_4 := cb_ HB hx176_4
             replace hx176_5 := cb_ HB hx176_5
             replace hx176_6 := cb_ HB hx176_6
             replace hx176_7 := cb_ HB hx176_7
             replace hx176_8 := cb_ HB hx176_8
             replace hx176_9 := cb_ HB hx176_9
             replace hx176_10 := cb_ HB hx176_10
             replace hx176_11 := cb_ HB hx176_11
             replace hx176_12 := cb_ HB hx176_12
             replace hx176_13 := cb_ HB hx176_13
             have HR176_13 := aa_ hi176_13
             have HC176_13 := aa_ hl176_13
             clear hi176_13 hl176_13
             replace p176 := eq_true p176
             replace q176 := eq_true q176
             have p177 : 0 ≤ (1 : Int) := (by omega)
             have q177 : 1 < (((rd_T80 l0 a1).f2).length : Int) := od_
             obtain ⟨ad177, e177, hx177_0⟩ := Kd.at_int HR162_13.out 1 p177 q177
             obtain rfl : ad173 = ad177 := (by injection e177)
             (try simp only [show (1 : Int).toNat = 1 from rfl, Nat.reduceMul, Nat.reduceEqDiff, Go.Addr.add, ↓reduceIte] at hx177_0)
             have qi177 : (1 < ((rd_T80 l0 a1).f2).length) = True := eq_true (by omega)
             (try rw [show ((1 : Int)).toNat = 1 from rfl] at hx177_0)
             replace hx177_0 := cb_ HB hx177_0
             replace p177 := eq_true p177
             replace q177 := eq_true q177
             have p178 : 0 ≤ ((rd ((rd_T80 l0 a1).f2) 1) : Int) := od_
             have q178 : (rd ((rd_T80 l0 a1).f2) 1) < (l0.length : Int) := od_
             obtain ⟨ad178, A178_13, c178_13, e178, hx178_0, hx178_1, hx178_2, hx178_3, hx178_4, hx178_5, hx178_6, hx178_7, hx178_8, hx178_9, hx178_10, hx178_11, hx178_12, hx178_13, hl178_13, hi178_13⟩ := at_T80 HR0.out (rd ((rd_T80 l0 a1).f2) 1) p178 q178
             obtain rfl : ad162 = ad178 := (by injection e178)
             replace hx178_0 := cb_ HB hx178_0
             replace hx178_1 := cb_ HB hx178_1
             replace hx178_2 := cb_ HB hx178_2
             replace hx178_3 := cb_ HB hx178_3
             replace hx178_4 := cb_ HB hx178_4
             replace hx178_5 := cb_ HB hx178_5
             replace hx178_6 := cb_ HB hx178_6
             replace hx178_7 := cb_ HB hx178_7
             replace hx178_8 := cb_ HB hx178_8
             replace hx178_9 := cb_ HB hx178_9
             replace hx178_10 := cb_ HB hx178_10
             replace hx178_11 := cb_ HB hx178_11
             replace hx178_12 := cb_ HB hx178_12
             replace hx178_13 := cb_ HB hx178_13
             have HR178_13 := aa_ hi178_13
             have HC178_13 := aa_ hl178_13
             clear hi178_13 hl178_13
             replace p178 := eq_true p178
             replace q178 := eq_true q178
             have hcz82 := blk_cell BK164.out
             have hfz82 := blk_frozen BK164.out
             go_wp2
             repeat (go_quiet (fail); try go_wp2)
             go_ret
             exact ⟨eq_, bl_⟩
           ·rw [if_neg c68] at H
            have c68b0 : ((((rd_T80 l0 a1).f2).length : Int) == 2) = false := beq_eq_false_iff_ne.mpr c68
            have c68b1 : ((((rd_T80 l0 a1).f2).length : Int) != 2) = true := bne_iff_ne.mpr c68
            obtain rfl := Option.some.inj H
            have hnb83 := NB163_164.out
            have hnc83 := NB164_163.out
            have hcz84 := blk_cell BK163.out
            have hfz84 := blk_frozen BK163.out
            have hcz85 := blk_cell BK164.out
            have hfz85 := blk_frozen BK164.out
            go_wp2
            repeat (go_quiet (fail); try go_wp2)
            go_ret
            exact ⟨eq_, bl_⟩
 ·replace c5 := Bool.eq_false_iff.mpr c5
  subst c5
  replace H := ite_f_ H
  obtain rfl := Option.some.inj H
  go_wp2
  repeat (go_quiet (fail); try go_wp2)
  go_ret
  exact ⟨eq_, bl_⟩
end Go.Proofs.Ytcnjbkfnijnpnaa.PA
