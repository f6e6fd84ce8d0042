import Derived.Test.YtljhfomkakhflaaKEPAx20
-- printed by wip/tools
namespace Go.Proofs.Ytljhfomkakhflaa.PA
open Go.RowKit Go.Proofs.YtljhfomkakhflaaW.PrintWords Go.Proofs.YtljhfomkakhflaaW.PrintLast Go.Proofs.YtljhfomkakhflaaW.PrintMore
attribute [local go_sem] max2_int min2_int max_two min_two max_three min_three max_four min_four
set_option linter.unusedVariables false
set_option linter.unusedSimpArgs false
attribute [local go_sem high] eqA26 eqA28
mutual
def spec_StepOk.j0 : Nat → List (S58) → Int → Bool → Int → Int → Int → Int → Int → Int → Int → Int → Int → Int → Int → Int → Int → List Int → Int → Int → Int → Int → Int → Int → Int → Int → Int → Int → Option (Bool)
 | 0, _, _, _, _, _, _, _, _, _, _, _, _, _, _, _, _, _, _, _, _, _, _, _, _, _, _, _ => none
 | k + 1, x0, x1, x31, x676000, x676001, x676002, x676003, x676004, x676005, x676006, x676007, x676008, x676009, x676010, x676011, x676012, x676013, x677000, x677001, x677002, x677003, x677004, x677005, x677006, x677007, x677008, x677009 => if x31 = true then (some false) else (spec_StepOk.l0 k x0 x1 0 x676000 x676001 x676002 x676003 x676004 x676005 x676006 x676007 x676008 x676009 x676010 x676011 x676012 x676013 x677000 x677001 x677002 x677003 x677004 x677005 x677006 x677007 x677008 x677009)
def spec_StepOk.l0 : Nat → List (S58) → Int → Int → Int → Int → Int → Int → Int → Int → Int → Int → Int → Int → Int → Int → Int → List Int → Int → Int → Int → Int → Int → Int → Int → Int → Int → Int → Option (Bool)
 | 0, _, _, _, _, _, _, _, _, _, _, _, _, _, _, _, _, _, _, _, _, _, _, _, _, _, _, _ => none
 | k + 1, x0, x1, x7, x676000, x676001, x676002, x676003, x676004, x676005, x676006, x676007, x676008, x676009, x676010, x676011, x676012, x676013, x677000, x677001, x677002, x677003, x677004, x677005, x677006, x677007, x677008, x677009 => if x7 < (x676013.length : Int) then (if 0 ≤ x7 then ((spec_l01In.f (rd x676013 x7) 0 (wrap64 (x1 - 1))).bind fun t679 => (if t679 = true then (spec_StepOk.l0 k x0 x1 (wrap64 (x7 + 1)) x676000 x676001 x676002 x676003 x676004 x676005 x676006 x676007 x676008 x676009 x676010 x676011 x676012 x676013 x677000 x677001 x677002 x677003 x677004 x677005 x677006 x677007 x677008 x677009) else (some false))) else (none)) else (if x677000 = 1 then (if x676012 = x677003 then (some ((x676013.length : Int) == 0)) else (some false)) else (if x677000 = 2 then (if (x676013.length : Int) = 1 then ((spec_l07Shown.f k x0 x1 x677004 x677005 x676012).bind fun t680 => (some t680)) else (some false)) else (if x677000 = 4 then (if (x676013.length : Int) = 2 then (if 0 < (x676013.length : Int) then (if 0 ≤ (rd x676013 0) then (if (rd x676013 0) < (x0.length : Int) then (if ((((rd_T58 x0 (rd x676013 0)).f1.f0.f0) == x677004 && (((rd_T58 x0 (rd x676013 0)).f1.f0.f1) == x677005)) && (((rd_T58 x0 (rd x676013 0)).f1.f1) == x676012)) = true then (if 1 < (x676013.length : Int) then (if 0 ≤ (rd x676013 1) then (if (rd x676013 1) < (x0.length : Int) then (some ((((rd_T58 x0 (rd x676013 1)).f1.f0.f0) == x677006 && (((rd_T58 x0 (rd x676013 1)).f1.f0.f1) == x677007)) && (((rd_T58 x0 (rd x676013 1)).f1.f1) == x676012))) else (none)) else (none)) else (none)) else (some false)) else (none)) else (none)) else (none)) else (some false)) else (if (x676013.length : Int) = 2 then (if 0 < (x676013.length : Int) then (if 0 ≤ (rd x676013 0) then (if (rd x676013 0) < (x0.length : Int) then (if (!(((rd_T58 x0 (rd x676013 0)).f1.f0.f0) == x677004) || (!(((rd_T58 x0 (rd x676013 0)).f1.f0.f1) == x677005))) = true then (some false) else (if 1 < (x676013.length : Int) then (if 0 ≤ (rd x676013 1) then (if (rd x676013 1) < (x0.length : Int) then (some ((((rd_T58 x0 (rd x676013 1)).f1.f0.f0) == ((rd_T58 x0 (rd x676013 0)).f1.f1) && (((rd_T58 x0 (rd x676013 1)).f1.f0.f1) == x677007)) && (((rd_T58 x0 (rd x676013 1)).f1.f1) == x676012))) else (none)) else (none)) else (none))) else (none)) else (none)) else (none)) else (some false)))))
end
def spec_StepOk.f (k : Nat) (l0 : List (S58)) (a1 : Int) : Option (Bool) := (spec_l01In.f a1 0 (wrap64 ((l0.length : Int) - 1))).bind fun t673 => (if t673 = true then (if 0 ≤ a1 then (if a1 < (l0.length : Int) then ((spec_CredOk.f k ((rd_T58 l0 a1).f0.f0) ((rd_T58 l0 a1).f0.f1.f0) ((rd_T58 l0 a1).f0.f1.f1) ((rd_T58 l0 a1).f0.f2) ((rd_T58 l0 a1).f0.f3.f0) ((rd_T58 l0 a1).f0.f3.f1) ((rd_T58 l0 a1).f0.f4.f0) ((rd_T58 l0 a1).f0.f4.f1) ((rd_T58 l0 a1).f0.f5) ((rd_T58 l0 a1).f0.f6)).bind fun t677 => (if t677 = true then (spec_StepOk.j0 k l0 a1 (!(((rd_T58 l0 a1).f1.f0.f0) == ((rd_T58 l0 a1).f0.f1.f0)) || (!(((rd_T58 l0 a1).f1.f0.f1) == ((rd_T58 l0 a1).f0.f1.f1)))) ((rd_T58 l0 a1).f0.f0) ((rd_T58 l0 a1).f0.f1.f0) ((rd_T58 l0 a1).f0.f1.f1) ((rd_T58 l0 a1).f0.f2) ((rd_T58 l0 a1).f0.f3.f0) ((rd_T58 l0 a1).f0.f3.f1) ((rd_T58 l0 a1).f0.f4.f0) ((rd_T58 l0 a1).f0.f4.f1) ((rd_T58 l0 a1).f0.f5) ((rd_T58 l0 a1).f0.f6) ((rd_T58 l0 a1).f1.f0.f0) ((rd_T58 l0 a1).f1.f0.f1) ((rd_T58 l0 a1).f1.f1) ((rd_T58 l0 a1).f2) ((rd_T58 l0 a1).f0.f0) ((rd_T58 l0 a1).f0.f1.f0) ((rd_T58 l0 a1).f0.f1.f1) ((rd_T58 l0 a1).f0.f2) ((rd_T58 l0 a1).f0.f3.f0) ((rd_T58 l0 a1).f0.f3.f1) ((rd_T58 l0 a1).f0.f4.f0) ((rd_T58 l0 a1).f0.f4.f1) ((rd_T58 l0 a1).f0.f5) ((rd_T58 l0 a1).f0.f6)) else (spec_StepOk.j0 k l0 a1 true ((rd_T58 l0 a1).f0.f0) ((rd_T58 l0 a1).f0.f1.f0) ((rd_T58 l0 a1).f0.f1.f1) ((rd_T58 l0 a1).f0.f2) ((rd_T58 l0 a1).f0.f3.f0) ((rd_T58 l0 a1).f0.f3.f1) ((rd_T58 l0 a1).f0.f4.f0) ((rd_T58 l0 a1).f0.f4.f1) ((rd_T58 l0 a1).f0.f5) ((rd_T58 l0 a1).f0.f6) ((rd_T58 l0 a1).f1.f0.f0) ((rd_T58 l0 a1).f1.f0.f1) ((rd_T58 l0 a1).f1.f1) ((rd_T58 l0 a1).f2) ((rd_T58 l0 a1).f0.f0) ((rd_T58 l0 a1).f0.f1.f0) ((rd_T58 l0 a1).f0.f1.f1) ((rd_T58 l0 a1).f0.f2) ((rd_T58 l0 a1).f0.f3.f0) ((rd_T58 l0 a1).f0.f3.f1) ((rd_T58 l0 a1).f0.f4.f0) ((rd_T58 l0 a1).f0.f4.f1) ((rd_T58 l0 a1).f0.f5) ((rd_T58 l0 a1).f0.f6)))) else (none)) else (none)) else (some false))
set_option maxHeartbeats 8000000 in
set_option maxRecDepth 100000 in
theorem spec_StepOk.calls (k : Nat) (A0 : Option Addr) (c0 : Nat) (l0 : List (S58)) (a1 : Int) (r : Bool) (w : World) (hr0 : Kd.C k58 w A0 l0.length l0) (hc0 : l0.length ≤ c0) (h : spec_StepOk.f k l0 a1 = some r) :
  Calls Try.prog 32 #[.slice A0 l0.length c0, .int .i64 a1] w fun e w' => e = .returned (.bool r) ∧ Below w.heap.size w w' := by
 have hu58 := Try.underlying58
 have hu35 := Try.underlying35
 have hu26 := Try.underlying26
 have hu28 := Try.underlying28
 have HR0 := aa_ hr0
 have HC0 := aa_ hc0
 clear hr0 hc0
 have HB := aa_ (Below.refl w.heap.size w)
 have H : ((spec_l01In.f a1 0 (wrap64 ((l0.length : Int) - 1))).bind fun t673 => (if t673 = true then (if 0 ≤ a1 then (if a1 < (l0.length : Int) then ((spec_CredOk.f k ((rd_T58 l0 a1).f0.f0) ((rd_T58 l0 a1).f0.f1.f0) ((rd_T58 l0 a1).f0.f1.f1) ((rd_T58 l0 a1).f0.f2) ((rd_T58 l0 a1).f0.f3.f0) ((rd_T58 l0 a1).f0.f3.f1) ((rd_T58 l0 a1).f0.f4.f0) ((rd_T58 l0 a1).f0.f4.f1) ((rd_T58 l0 a1).f0.f5) ((rd_T58 l0 a1).f0.f6)).bind fun t677 => (if t677 = true then (spec_StepOk.j0 k l0 a1 (!(((rd_T58 l0 a1).f1.f0.f0) == ((rd_T58 l0 a1).f0.f1.f0)) || (!(((rd_T58 l0 a1).f1.f0.f1) == ((rd_T58 l0 a1).f0.f1.f1)))) ((rd_T58 l0 a1).f0.f0) ((rd_T58 l0 a1).f0.f1.f0) ((rd_T58 l0 a1).f0.f1.f1) ((rd_T58 l0 a1).f0.f2) ((rd_T58 l0 a1).f0.f3.f0) ((rd_T58 l0 a1).f0.f3.f1) ((rd_T58 l0 a1).f0.f4.f0) ((rd_T58 l0 a1).f0.f4.f1) ((rd_T58 l0 a1).f0.f5) ((rd_T58 l0 a1).f0.f6) ((rd_T58 l0 a1).f1.f0.f0) ((rd_T58 l0 a1).f1.f0.f1) ((rd_T58 l0 a1).f1.f1) ((rd_T58 l0 a1).f2) ((rd_T58 l0 a1).f0.f0) ((rd_T58 l0 a1).f0.f1.f0) ((rd_T58 l0 a1).f0.f1.f1) ((rd_T58 l0 a1).f0.f2) ((rd_T58 l0 a1).f0.f3.f0) ((rd_T58 l0 a1).f0.f3.f1) ((rd_T58 l0 a1).f0.f4.f0) ((rd_T58 l0 a1).f0.f4.f1) ((rd_T58 l0 a1).f0.f5) ((rd_T58 l0 a1).f0.f6)) else (spec_StepOk.j0 k l0 a1 true ((rd_T58 l0 a1).f0.f0) ((rd_T58 l0 a1).f0.f1.f0) ((rd_T58 l0 a1).f0.f1.f1) ((rd_T58 l0 a1).f0.f2) ((rd_T58 l0 a1).f0.f3.f0) ((rd_T58 l0 a1).f0.f3.f1) ((rd_T58 l0 a1).f0.f4.f0) ((rd_T58 l0 a1).f0.f4.f1) ((rd_T58 l0 a1).f0.f5) ((rd_T58 l0 a1).f0.f6) ((rd_T58 l0 a1).f1.f0.f0) ((rd_T58 l0 a1).f1.f0.f1) ((rd_T58 l0 a1).f1.f1) ((rd_T58 l0 a1).f2) ((rd_T58 l0 a1).f0.f0) ((rd_T58 l0 a1).f0.f1.f0) ((rd_T58 l0 a1).f0.f1.f1) ((rd_T58 l0 a1).f0.f2) ((rd_T58 l0 a1).f0.f3.f0) ((rd_T58 l0 a1).f0.f3.f1) ((rd_T58 l0 a1).f0.f4.f0) ((rd_T58 l0 a1).f0.f4.f1) ((rd_T58 l0 a1).f0.f5) ((rd_T58 l0 a1).f0.f6)))) else (none)) else (none)) else (some false))) = some r := h
 clear h
 obtain ⟨t673, A3, H⟩ := bindE_ H
 have HC4 := aa_ H
 clear H
 go_enter Try.func32, Try.ntmps32
 go_upto_if 14 with (first | (go_at_call 31; (with_reducible refine (spec_l01In.calls a1 0 (wrap64 ((l0.length : Int) - 1)) t673 _ A3.out).mono ?_); rintro e w' ⟨rfl, ⟨nd, rfl⟩⟩; (try first | exact ⟨rfl, _, World.drewN_drewN _ _ _⟩ | exact ⟨rfl, _, Eq.trans (World.drewN_drewN _ _ _) (congrArg (World.drewN _) (Nat.add_assoc _ _ _))⟩)))
 repeat (go_quiet (first | (go_at_call 31; (with_reducible refine (spec_l01In.calls a1 0 (wrap64 ((l0.length : Int) - 1)) t673 _ A3.out).mono ?_); rintro e w' ⟨rfl, ⟨nd, rfl⟩⟩; (try first | exact ⟨rfl, _, World.drewN_drewN _ _ _⟩ | exact ⟨rfl, _, Eq.trans (World.drewN_drewN _ _ _) (congrArg (World.drewN _) (Nat.add_assoc _ _ _))⟩))); go_upto_if 14 with (first | (go_at_call 31; (with_reducible refine (spec_l01In.calls a1 0 (wrap64 ((l0.length : Int) - 1)) t673 _ A3.out).mono ?_); rintro e w' ⟨rfl, ⟨nd, rfl⟩⟩; (try first | exact ⟨rfl, _, World.drewN_drewN _ _ _⟩ | exact ⟨rfl, _, Eq.trans (World.drewN_drewN _ _ _) (congrArg (World.drewN _) (Nat.add_assoc _ _ _))⟩))))
 (try simp only [Act.put, sb_, sz_, ss_])
 have H := HC4.out
 clear HC4
 by_cases c5 : t673 = true
 ·subst c5
  replace H := ite_t_ H
  obtain ⟨c6b0, H⟩ := ifd_ H
  (first | rw [c6b0] | (simp only [i64_w, i32_w]; rw [c6b0]) | skip)
  obtain ⟨c7b0, H⟩ := ifd_ H
  have HC8 := aa_ H
  clear H
  have p674 : 0 ≤ (a1 : Int) := od_
  have q674 : a1 < (l0.length : Int) := od_
  obtain ⟨ad674, A674_13, c674_13, e674, hx674_0, hx674_1, hx674_2, hx674_3, hx674_4, hx674_5, hx674_6, hx674_7, hx674_8, hx674_9, hx674_10, hx674_11, hx674_12, hx674_13, hl674_13, hi674_13⟩ := at_T58 HR0.out a1 p674 q674
  cases e674
  replace hx674_0 := cb_ HB hx674_0
  replace hx674_1 := cb_ HB hx674_1
  replace hx674_2 := cb_ HB hx674_2
  replace hx674_3 := cb_ HB hx674_3
  replace hx674_4 := cb_ HB hx674_4
  replace hx674_5 := cb_ HB hx674_5
  replace hx674_6 := cb_ HB hx674_6
  replace hx674_7 := cb_ HB hx674_7
  replace hx674_8 := cb_ HB hx674_8
  replace hx674_9 := cb_ HB hx674_9
  replace hx674_10 := cb_ HB hx674_10
  replace hx674_11 := cb_ HB hx674_11
  replace hx674_12 := cb_ HB hx674_12
  replace hx674_13 := cb_ HB hx674_13
  have HR674_13 := aa_ hi674_13
  have HC674_13 := aa_ hl674_13
  clear hi674_13 hl674_13
  replace p674 := eq_true p674
  replace q674 := eq_true q674
  go_upto_region 5 with (first | ((with_reducible refine gD_ 5 rfl ?_); (try (refine gate_guard (by rfl) ?_; dsimp only)); refine bx_ (N := 5) (cs := #[.int .i64 0, .int .i64 0, .int .i64 0, .int .i64 0, .int .i64 0, .int .i64 0, .int .i64 0, .int .i64 0, .int .i64 0, .int .i64 0, .int .i64 0, .int .i64 0, .int .i64 0, .slice none 0 0]) (t := 58) ?_; intro gb675 hg w9 hbox hb; have BK675 := aa_ (hbox); have GW675 := gs_ hg; have GE675 := gs_ hg; replace HB := hbs_ hb; clear hb hbox hg; obtain ⟨hcz10, hfz10⟩ := bcf_ BK675) | ((with_reducible refine gD_ 6 rfl ?_); (try (refine gate_guard (by rfl) ?_; dsimp only)); refine bx_ (N := 6) (cs := #[.int .i64 0, .int .i64 0, .int .i64 0, .int .i64 0, .int .i64 0, .int .i64 0, .int .i64 0, .int .i64 0, .int .i64 0, .int .i64 0]) (t := 35) ?_; intro gb676 hg w11 hbox hb; have BK676 := aa_ (hbox); have GW676 := gs_ hg; have GE676 := gs_ hg; replace HB := hbs_ hb; have NB675_676 := nl_ hg BK675; have NB676_675 := nr_ hg BK675; replace BK675 := aa_ (blk_below (g := gb675) (o := .cells #[.int .i64 ((rd_T58 l0 a1).f0.f0), .int .i64 ((rd_T58 l0 a1).f0.f1.f0), .int .i64 ((rd_T58 l0 a1).f0.f1.f1), .int .i64 ((rd_T58 l0 a1).f0.f2), .int .i64 ((rd_T58 l0 a1).f0.f3.f0), .int .i64 ((rd_T58 l0 a1).f0.f3.f1), .int .i64 ((rd_T58 l0 a1).f0.f4.f0), .int .i64 ((rd_T58 l0 a1).f0.f4.f1), .int .i64 ((rd_T58 l0 a1).f0.f5), .int .i64 ((rd_T58 l0 a1).f0.f6), .int .i64 ((rd_T58 l0 a1).f1.f0.f0), .int .i64 ((rd_T58 l0 a1).f1.f0.f1), .int .i64 ((rd_T58 l0 a1).f1.f1), .slice A674_13 ((rd_T58 l0 a1).f2).length c674_13] 58 (0, 0)) (bk_ BK675) hb); clear hb hbox hg; have hnb12 := NB676_675.out; have hnc12 := NB675_676.out; obtain ⟨hcz13, hfz13⟩ := bcf_ BK676))
  repeat (go_quiet (first | ((with_reducible refine gD_ 5 rfl ?_); (try (refine gate_guard (by rfl) ?_; dsimp only)); refine bx_ (N := 5) (cs := #[.int .i64 0, .int .i64 0, .int .i64 0, .int .i64 0, .int .i64 0, .int .i64 0, .int .i64 0, .int .i64 0, .int .i64 0, .int .i64 0, .int .i64 0, .int .i64 0, .int .i64 0, .slice none 0 0]) (t := 58) ?_; intro gb675 hg w9 hbox hb; have BK675 := aa_ (hbox); have GW675 := gs_ hg; have GE675 := gs_ hg; replace HB := hbs_ hb; clear hb hbox hg; obtain ⟨hcz10, hfz10⟩ := bcf_ BK675) | ((with_reducible refine gD_ 6 rfl ?_); (try (refine gate_guard (by rfl) ?_; dsimp only)); refine bx_ (N := 6) (cs := #[.int .i64 0, .int .i64 0, .int .i64 0, .int .i64 0, .int .i64 0, .int .i64 0, .int .i64 0, .int .i64 0, .int .i64 0, .int .i64 0]) (t := 35) ?_; intro gb676 hg w11 hbox hb; have BK676 := aa_ (hbox); have GW676 := gs_ hg; have GE676 := gs_ hg; replace HB := hbs_ hb; have NB675_676 := nl_ hg BK675; have NB676_675 := nr_ hg BK675; replace BK675 := aa_ (blk_below (g := gb675) (o := .cells #[.int .i64 ((rd_T58 l0 a1).f0.f0), .int .i64 ((rd_T58 l0 a1).f0.f1.f0), .int .i64 ((rd_T58 l0 a1).f0.f1.f1), .int .i64 ((rd_T58 l0 a1).f0.f2), .int .i64 ((rd_T58 l0 a1).f0.f3.f0), .int .i64 ((rd_T58 l0 a1).f0.f3.f1), .int .i64 ((rd_T58 l0 a1).f0.f4.f0), .int .i64 ((rd_T58 l0 a1).f0.f4.f1), .int .i64 ((rd_T58 l0 a1).f0.f5), .int .i64 ((rd_T58 l0 a1).f0.f6), .int .i64 ((rd_T58 l0 a1).f1.f0.f0), .int .i64 ((rd_T58 l0 a1).f1.f0.f1), .int .i64 ((rd_T58 l0 a1).f1.f1), .slice A674_13 ((rd_T58 l0 a1).f2).length c674_13] 58 (0, 0)) (bk_ BK675) hb); clear hb hbox hg; have hnb12 := NB676_675.out; have hnc12 := NB675_676.out; obtain ⟨hcz13, hfz13⟩ := bcf_ BK676)); go_upto_region 5 with (first | ((with_reducible refine gD_ 5 rfl ?_); (try (refine gate_guard (by rfl) ?_; dsimp only)); refine bx_ (N := 5) (cs := #[.int .i64 0, .int .i64 0, .int .i64 0, .int .i64 0, .int .i64 0, .int .i64 0, .int .i64 0, .int .i64 0, .int .i64 0, .int .i64 0, .int .i64 0, .int .i64 0, .int .i64 0, .slice none 0 0]) (t := 58) ?_; intro gb675 hg w9 hbox hb; have BK675 := aa_ (hbox); have GW675 := gs_ hg; have GE675 := gs_ hg; replace HB := hbs_ hb; clear hb hbox hg; obtain ⟨hcz10, hfz10⟩ := bcf_ BK675) | ((with_reducible refine gD_ 6 rfl ?_); (try (refine gate_guard (by rfl) ?_; dsimp only)); refine bx_ (N := 6) (cs := #[.int .i64 0, .int .i64 0, .int .i64 0, .int .i64 0, .int .i64 0, .int .i64 0, .int .i64 0, .int .i64 0, .int .i64 0, .int .i64 0]) (t := 35) ?_; intro gb676 hg w11 hbox hb; have BK676 := aa_ (hbox); have GW676 := gs_ hg; have GE676 := gs_ hg; replace HB := hbs_ hb; have NB675_676 := nl_ hg BK675; have NB676_675 := nr_ hg BK675; replace BK675 := aa_ (blk_below (g := gb675) (o := .cells #[.int .i64 ((rd_T58 l0 a1).f0.f0), .int .i64 ((rd_T58 l0 a1).f0.f1.f0), .int .i64 ((rd_T58 l0 a1).f0.f1.f1), .int .i64 ((rd_T58 l0 a1).f0.f2), .int .i64 ((rd_T58 l0 a1).f0.f3.f0), .int .i64 ((rd_T58 l0 a1).f0.f3.f1), .int .i64 ((rd_T58 l0 a1).f0.f4.f0), .int .i64 ((rd_T58 l0 a1).f0.f4.f1), .int .i64 ((rd_T58 l0 a1).f0.f5), .int .i64 ((rd_T58 l0 a1).f0.f6), .int .i64 ((rd_T58 l0 a1).f1.f0.f0), .int .i64 ((rd_T58 l0 a1).f1.f0.f1), .int .i64 ((rd_T58 l0 a1).f1.f1), .slice A674_13 ((rd_T58 l0 a1).f2).length c674_13] 58 (0, 0)) (bk_ BK675) hb); clear hb hbox hg; have hnb12 := NB676_675.out; have hnc12 := NB675_676.out; obtain ⟨hcz13, hfz13⟩ := bcf_ BK676)))
  (try simp only [Act.put, sb_, sz_, ss_])
  go_cut [31] (fun v31 wc => ∃ (kq : Nat) (x31_7 : Bool), v31 = .bool x31_7 ∧ Aside0 (spec_StepOk.j0 kq l0 a1 x31_7 ((rd_T58 l0 a1).f0.f0) ((rd_T58 l0 a1).f0.f1.f0) ((rd_T58 l0 a1).f0.f1.f1) ((rd_T58 l0 a1).f0.f2) ((rd_T58 l0 a1).f0.f3.f0) ((rd_T58 l0 a1).f0.f3.f1) ((rd_T58 l0 a1).f0.f4.f0) ((rd_T58 l0 a1).f0.f4.f1) ((rd_T58 l0 a1).f0.f5) ((rd_T58 l0 a1).f0.f6) ((rd_T58 l0 a1).f1.f0.f0) ((rd_T58 l0 a1).f1.f0.f1) ((rd_T58 l0 a1).f1.f1) ((rd_T58 l0 a1).f2) ((rd_T58 l0 a1).f0.f0) ((rd_T58 l0 a1).f0.f1.f0) ((rd_T58 l0 a1).f0.f1.f1) ((rd_T58 l0 a1).f0.f2) ((rd_T58 l0 a1).f0.f3.f0) ((rd_T58 l0 a1).f0.f3.f1) ((rd_T58 l0 a1).f0.f4.f0) ((rd_T58 l0 a1).f0.f4.f1) ((rd_T58 l0 a1).f0.f5) ((rd_T58 l0 a1).f0.f6) = some r) ∧ Aside0 (kq ≤ k) ∧ Aside0 (wc.heap[gb675]? = some (.cells #[.int .i64 ((rd_T58 l0 a1).f0.f0), .int .i64 ((rd_T58 l0 a1).f0.f1.f0), .int .i64 ((rd_T58 l0 a1).f0.f1.f1), .int .i64 ((rd_T58 l0 a1).f0.f2), .int .i64 ((rd_T58 l0 a1).f0.f3.f0), .int .i64 ((rd_T58 l0 a1).f0.f3.f1), .int .i64 ((rd_T58 l0 a1).f0.f4.f0), .int .i64 ((rd_T58 l0 a1).f0.f4.f1), .int .i64 ((rd_T58 l0 a1).f0.f5), .int .i64 ((rd_T58 l0 a1).f0.f6), .int .i64 ((rd_T58 l0 a1).f1.f0.f0), .int .i64 ((rd_T58 l0 a1).f1.f0.f1), .int .i64 ((rd_T58 l0 a1).f1.f1), (.slice A674_13 ((rd_T58 l0 a1).f2).length c674_13)] 58 (0, 0))) ∧ Aside0 (wc.heap[gb676]? = some (.cells #[.int .i64 ((rd_T58 l0 a1).f0.f0), .int .i64 ((rd_T58 l0 a1).f0.f1.f0), .int .i64 ((rd_T58 l0 a1).f0.f1.f1), .int .i64 ((rd_T58 l0 a1).f0.f2), .int .i64 ((rd_T58 l0 a1).f0.f3.f0), .int .i64 ((rd_T58 l0 a1).f0.f3.f1), .int .i64 ((rd_T58 l0 a1).f0.f4.f0), .int .i64 ((rd_T58 l0 a1).f0.f4.f1), .int .i64 ((rd_T58 l0 a1).f0.f5), .int .i64 ((rd_T58 l0 a1).f0.f6)] 35 (0, 0))) ∧ Aside0 (Below w.heap.size w wc))
  case first =>
   have H := HC8.out
   clear HC8
   obtain ⟨t677, A14, H⟩ := bindE_ H
   by_cases c15 : t677 = true
   ·subst c15
    replace H := ite_t_ H
    have H' := aa_ H
    clear H
    have hnb16 := NB676_675.out
    have hnc16 := NB675_676.out
    have hcz17 := blk_cell BK676.out
    have hfz17 := blk_frozen BK676.out
    go_wp2_with (first | (go_at_call 47; (with_reducible refine (spec_CredOk.calls k ((rd_T58 l0 a1).f0.f0) ((rd_T58 l0 a1).f0.f1.f0) ((rd_T58 l0 a1).f0.f1.f1) ((rd_T58 l0 a1).f0.f2) ((rd_T58 l0 a1).f0.f3.f0) ((rd_T58 l0 a1).f0.f3.f1) ((rd_T58 l0 a1).f0.f4.f0) ((rd_T58 l0 a1).f0.f4.f1) ((rd_T58 l0 a1).f0.f5) ((rd_T58 l0 a1).f0.f6) true _ A14.out).mono ?_); rintro e w18 ⟨rfl, hb⟩; replace BK675 := aa_ (blk_below (g := gb675) (o := .cells #[.int .i64 ((rd_T58 l0 a1).f0.f0), .int .i64 ((rd_T58 l0 a1).f0.f1.f0), .int .i64 ((rd_T58 l0 a1).f0.f1.f1), .int .i64 ((rd_T58 l0 a1).f0.f2), .int .i64 ((rd_T58 l0 a1).f0.f3.f0), .int .i64 ((rd_T58 l0 a1).f0.f3.f1), .int .i64 ((rd_T58 l0 a1).f0.f4.f0), .int .i64 ((rd_T58 l0 a1).f0.f4.f1), .int .i64 ((rd_T58 l0 a1).f0.f5), .int .i64 ((rd_T58 l0 a1).f0.f6), .int .i64 ((rd_T58 l0 a1).f1.f0.f0), .int .i64 ((rd_T58 l0 a1).f1.f0.f1), .int .i64 ((rd_T58 l0 a1).f1.f1), .slice A674_13 ((rd_T58 l0 a1).f2).length c674_13] 58 (0, 0)) (bk_ BK675) hb); replace BK676 := aa_ (blk_below (g := gb676) (o := .cells #[.int .i64 ((rd_T58 l0 a1).f0.f0), .int .i64 ((rd_T58 l0 a1).f0.f1.f0), .int .i64 ((rd_T58 l0 a1).f0.f1.f1), .int .i64 ((rd_T58 l0 a1).f0.f2), .int .i64 ((rd_T58 l0 a1).f0.f3.f0), .int .i64 ((rd_T58 l0 a1).f0.f3.f1), .int .i64 ((rd_T58 l0 a1).f0.f4.f0), .int .i64 ((rd_T58 l0 a1).f0.f4.f1), .int .i64 ((rd_T58 l0 a1).f0.f5), .int .i64 ((rd_T58 l0 a1).f0.f6)] 35 (0, 0)) (bk_ BK676) hb); replace HB := hbs_ hb; clear hb; obtain ⟨hcz19, hfz19⟩ := bcf_ BK675; obtain ⟨hcz20, hfz20⟩ := bcf_ BK676))
    repeat (go_quiet (first | (go_at_call 47; (with_reducible refine (spec_CredOk.calls k ((rd_T58 l0 a1).f0.f0) ((rd_T58 l0 a1).f0.f1.f0) ((rd_T58 l0 a1).f0.f1.f1) ((rd_T58 l0 a1).f0.f2) ((rd_T58 l0 a1).f0.f3.f0) ((rd_T58 l0 a1).f0.f3.f1) ((rd_T58 l0 a1).f0.f4.f0) ((rd_T58 l0 a1).f0.f4.f1) ((rd_T58 l0 a1).f0.f5) ((rd_T58 l0 a1).f0.f6) true _ A14.out).mono ?_); rintro e w18 ⟨rfl, hb⟩; replace BK675 := aa_ (blk_below (g := gb675) (o := .cells #[.int .i64 ((rd_T58 l0 a1).f0.f0), .int .i64 ((rd_T58 l0 a1).f0.f1.f0), .int .i64 ((rd_T58 l0 a1).f0.f1.f1), .int .i64 ((rd_T58 l0 a1).f0.f2), .int .i64 ((rd_T58 l0 a1).f0.f3.f0), .int .i64 ((rd_T58 l0 a1).f0.f3.f1), .int .i64 ((rd_T58 l0 a1).f0.f4.f0), .int .i64 ((rd_T58 l0 a1).f0.f4.f1), .int .i64 ((rd_T58 l0 a1).f0.f5), .int .i64 ((rd_T58 l0 a1).f0.f6), .int .i64 ((rd_T58 l0 a1).f1.f0.f0), .int .i64 ((rd_T58 l0 a1).f1.f0.f1), .int .i64 ((rd_T58 l0 a1).f1.f1), .slice A674_13 ((rd_T58 l0 a1).f2).length c674_13] 58 (0, 0)) (bk_ BK675) hb); replace BK676 := aa_ (blk_below (g := gb676) (o := .cells #[.int .i64 ((rd_T58 l0 a1).f0.f0), .int .i64 ((rd_T58 l0 a1).f0.f1.f0), .int .i64 ((rd_T58 l0 a1).f0.f1.f1), .int .i64 ((rd_T58 l0 a1).f0.f2), .int .i64 ((rd_T58 l0 a1).f0.f3.f0), .int .i64 ((rd_T58 l0 a1).f0.f3.f1), .int .i64 ((rd_T58 l0 a1).f0.f4.f0), .int .i64 ((rd_T58 l0 a1).f0.f4.f1), .int .i64 ((rd_T58 l0 a1).f0.f5), .int .i64 ((rd_T58 l0 a1).f0.f6)] 35 (0, 0)) (bk_ BK676) hb); replace HB := hbs_ hb; clear hb; obtain ⟨hcz19, hfz19⟩ := bcf_ BK675; obtain ⟨hcz20, hfz20⟩ := bcf_ BK676)); try go_wp2_with (first | (go_at_call 47; (with_reducible refine (spec_CredOk.calls k ((rd_T58 l0 a1).f0.f0) ((rd_T58 l0 a1).f0.f1.f0) ((rd_T58 l0 a1).f0.f1.f1) ((rd_T58 l0 a1).f0.f2) ((rd_T58 l0 a1).f0.f3.f0) ((rd_T58 l0 a1).f0.f3.f1) ((rd_T58 l0 a1).f0.f4.f0) ((rd_T58 l0 a1).f0.f4.f1) ((rd_T58 l0 a1).f0.f5) ((rd_T58 l0 a1).f0.f6) true _ A14.out).mono ?_); rintro e w18 ⟨rfl, hb⟩; replace BK675 := aa_ (blk_below (g := gb675) (o := .cells #[.int .i64 ((rd_T58 l0 a1).f0.f0), .int .i64 ((rd_T58 l0 a1).f0.f1.f0), .int .i64 ((rd_T58 l0 a1).f0.f1.f1), .int .i64 ((rd_T58 l0 a1).f0.f2), .int .i64 ((rd_T58 l0 a1).f0.f3.f0), .int .i64 ((rd_T58 l0 a1).f0.f3.f1), .int .i64 ((rd_T58 l0 a1).f0.f4.f0), .int .i64 ((rd_T58 l0 a1).f0.f4.f1), .int .i64 ((rd_T58 l0 a1).f0.f5), .int .i64 ((rd_T58 l0 a1).f0.f6), .int .i64 ((rd_T58 l0 a1).f1.f0.f0), .int .i64 ((rd_T58 l0 a1).f1.f0.f1), .int .i64 ((rd_T58 l0 a1).f1.f1), .slice A674_13 ((rd_T58 l0 a1).f2).length c674_13] 58 (0, 0)) (bk_ BK675) hb); replace BK676 := aa_ (blk_below (g := gb676) (o := .cells #[.int .i64 ((rd_T58 l0 a1).f0.f0), .int .i64 ((rd_T58 l0 a1).f0.f1.f0), .int .i64 ((rd_T58 l0 a1).f0.f1.f1), .int .i64 ((rd_T58 l0 a1).f0.f2), .int .i64 ((rd_T58 l0 a1).f0.f3.f0), .int .i64 ((rd_T58 l0 a1).f0.f3.f1), .int .i64 ((rd_T58 l0 a1).f0.f4.f0), .int .i64 ((rd_T58 l0 a1).f0.f4.f1), .int .i64 ((rd_T58 l0 a1).f0.f5), .int .i64 ((rd_T58 l0 a1).f0.f6)] 35 (0, 0)) (bk_ BK676) hb); replace HB := hbs_ hb; clear hb; obtain ⟨hcz19, hfz19⟩ := bcf_ BK675; obtain ⟨hcz20, hfz20⟩ := bcf_ BK676)))
    go_meet
    case rel => exact ⟨_, ((!(((rd_T58 l0 a1).f1.f0.f0) == ((rd_T58 l0 a1).f0.f1.f0)) || (!(((rd_T58 l0 a1).f1.f0.f1) == ((rd_T58 l0 a1).f0.f1.f1))))), rf_, H', ⟨by first | omega | exact Nat.le_refl _⟩, ⟨bk_ BK675⟩, ⟨bk_ BK676⟩, ⟨bl_⟩⟩
   ·replace c15 := Bool.eq_false_iff.mpr c15
    subst c15
    replace H := ite_f_ H
    have H' := aa_ H
    clear H
    have hnb21 := NB676_675.out
    have hnc21 := NB675_676.out
    have hcz22 := blk_cell BK676.out
    have hfz22 := blk_frozen BK676.out
    go_wp2_with (first | (go_at_call 47; (with_reducible refine (spec_CredOk.calls k ((rd_T58 l0 a1).f0.f0) ((rd_T58 l0 a1).f0.f1.f0) ((rd_T58 l0 a1).f0.f1.f1) ((rd_T58 l0 a1).f0.f2) ((rd_T58 l0 a1).f0.f3.f0) ((rd_T58 l0 a1).f0.f3.f1) ((rd_T58 l0 a1).f0.f4.f0) ((rd_T58 l0 a1).f0.f4.f1) ((rd_T58 l0 a1).f0.f5) ((rd_T58 l0 a1).f0.f6) false _ A14.out).mono ?_); rintro e w23 ⟨rfl, hb⟩; replace BK675 := aa_ (blk_below (g := gb675) (o := .cells #[.int .i64 ((rd_T58 l0 a1).f0.f0), .int .i64 ((rd_T58 l0 a1).f0.f1.f0), .int .i64 ((rd_T58 l0 a1).f0.f1.f1), .int .i64 ((rd_T58 l0 a1).f0.f2), .int .i64 ((rd_T58 l0 a1).f0.f3.f0), .int .i64 ((rd_T58 l0 a1).f0.f3.f1), .int .i64 ((rd_T58 l0 a1).f0.f4.f0), .int .i64 ((rd_T58 l0 a1).f0.f4.f1), .int .i64 ((rd_T58 l0 a1).f0.f5), .int .i64 ((rd_T58 l0 a1).f0.f6), .int .i64 ((rd_T58 l0 a1).f1.f0.f0), .int .i64 ((rd_T58 l0 a1).f1.f0.f1), .int .i64 ((rd_T58 l0 a1).f1.f1), .slice A674_13 ((rd_T58 l0 a1).f2).length c674_13] 58 (0, 0)) (bk_ BK675) hb); replace BK676 := aa_ (blk_below (g := gb676) (o := .cells #[.int .i64 ((rd_T58 l0 a1).f0.f0), .int .i64 ((rd_T58 l0 a1).f0.f1.f0), .int .i64 ((rd_T58 l0 a1).f0.f1.f1), .int .i64 ((rd_T58 l0 a1).f0.f2), .int .i64 ((rd_T58 l0 a1).f0.f3.f0), .int .i64 ((rd_T58 l0 a1).f0.f3.f1), .int .i64 ((rd_T58 l0 a1).f0.f4.f0), .int .i64 ((rd_T58 l0 a1).f0.f4.f1), .int .i64 ((rd_T58 l0 a1).f0.f5), .int .i64 ((rd_T58 l0 a1).f0.f6)] 35 (0, 0)) (bk_ BK676) hb); replace HB := hbs_ hb; clear hb))
    repeat (go_quiet (first | (go_at_call 47; (with_reducible refine (spec_CredOk.calls k ((rd_T58 l0 a1).f0.f0) ((rd_T58 l0 a1).f0.f1.f0) ((rd_T58 l0 a1).f0.f1.f1) ((rd_T58 l0 a1).f0.f2) ((rd_T58 l0 a1).f0.f3.f0) ((rd_T58 l0 a1).f0.f3.f1) ((rd_T58 l0 a1).f0.f4.f0) ((rd_T58 l0 a1).f0.f4.f1) ((rd_T58 l0 a1).f0.f5) ((rd_T58 l0 a1).f0.f6) false _ A14.out).mono ?_); rintro e w23 ⟨rfl, hb⟩; replace BK675 := aa_ (blk_below (g := gb675) (o := .cells #[.int .i64 ((rd_T58 l0 a1).f0.f0), .int .i64 ((rd_T58 l0 a1).f0.f1.f0), .int .i64 ((rd_T58 l0 a1).f0.f1.f1), .int .i64 ((rd_T58 l0 a1).f0.f2), .int .i64 ((rd_T58 l0 a1).f0.f3.f0), .int .i64 ((rd_T58 l0 a1).f0.f3.f1), .int .i64 ((rd_T58 l0 a1).f0.f4.f0), .int .i64 ((rd_T58 l0 a1).f0.f4.f1), .int .i64 ((rd_T58 l0 a1).f0.f5), .int .i64 ((rd_T58 l0 a1).f0.f6), .int .i64 ((rd_T58 l0 a1).f1.f0.f0), .int .i64 ((rd_T58 l0 a1).f1.f0.f1), .int .i64 ((rd_T58 l0 a1).f1.f1), .slice A674_13 ((rd_T58 l0 a1).f2).length c674_13] 58 (0, 0)) (bk_ BK675) hb); replace BK676 := aa_ (blk_below (g := gb676) (o := .cells #[.int .i64 ((rd_T58 l0 a1).f0.f0), .int .i64 ((rd_T58 l0 a1).f0.f1.f0), .int .i64 ((rd_T58 l0 a1).f0.f1.f1), .int .i64 ((rd_T58 l0 a1).f0.f2), .int .i64 ((rd_T58 l0 a1).f0.f3.f0), .int .i64 ((rd_T58 l0 a1).f0.f3.f1), .int .i64 ((rd_T58 l0 a1).f0.f4.f0), .int .i64 ((rd_T58 l0 a1).f0.f4.f1), .int .i64 ((rd_T58 l0 a1).f0.f5), .int .i64 ((rd_T58 l0 a1).f0.f6)] 35 (0, 0)) (bk_ BK676) hb); replace HB := hbs_ hb; clear hb)); try go_wp2_with (first | (go_at_call 47; (with_reducible refine (spec_CredOk.calls k ((rd_T58 l0 a1).f0.f0) ((rd_T58 l0 a1).f0.f1.f0) ((rd_T58 l0 a1).f0.f1.f1) ((rd_T58 l0 a1).f0.f2) ((rd_T58 l0 a1).f0.f3.f0) ((rd_T58 l0 a1).f0.f3.f1) ((rd_T58 l0 a1).f0.f4.f0) ((rd_T58 l0 a1).f0.f4.f1) ((rd_T58 l0 a1).f0.f5) ((rd_T58 l0 a1).f0.f6) false _ A14.out).mono ?_); rintro e w23 ⟨rfl, hb⟩; replace BK675 := aa_ (blk_below (g := gb675) (o := .cells #[.int .i64 ((rd_T58 l0 a1).f0.f0), .int .i64 ((rd_T58 l0 a1).f0.f1.f0), .int .i64 ((rd_T58 l0 a1).f0.f1.f1), .int .i64 ((rd_T58 l0 a1).f0.f2), .int .i64 ((rd_T58 l0 a1).f0.f3.f0), .int .i64 ((rd_T58 l0 a1).f0.f3.f1), .int .i64 ((rd_T58 l0 a1).f0.f4.f0), .int .i64 ((rd_T58 l0 a1).f0.f4.f1), .int .i64 ((rd_T58 l0 a1).f0.f5), .int .i64 ((rd_T58 l0 a1).f0.f6), .int .i64 ((rd_T58 l0 a1).f1.f0.f0), .int .i64 ((rd_T58 l0 a1).f1.f0.f1), .int .i64 ((rd_T58 l0 a1).f1.f1), .slice A674_13 ((rd_T58 l0 a1).f2).length c674_13] 58 (0, 0)) (bk_ BK675) hb); replace BK676 := aa_ (blk_below (g := gb676) (o := .cells #[.int .i64 ((rd_T58 l0 a1).f0.f0), .int .i64 ((rd_T58 l0 a1).f0.f1.f0), .int .i64 ((rd_T58 l0 a1).f0.f1.f1), .int .i64 ((rd_T58 l0 a1).f0.f2), .int .i64 ((rd_T58 l0 a1).f0.f3.f0), .int .i64 ((rd_T58 l0 a1).f0.f3.f1), .int .i64 ((rd_T58 l0 a1).f0.f4.f0), .int .i64 ((rd_T58 l0 a1).f0.f4.f1), .int .i64 ((rd_T58 l0 a1).f0.f5), .int .i64 ((rd_T58 l0 a1).f0.f6)] 35 (0, 0)) (bk_ BK676) hb); replace HB := hbs_ hb; clear hb)))
    go_meet
    case rel => exact ⟨_, (true), rf_, H', ⟨by first | omega | exact Nat.le_refl _⟩, ⟨bk_ BK675⟩, ⟨bk_ BK676⟩, ⟨bl_⟩⟩
  case rest =>
   clear HC8
   try clear p2
   try clear c6b0
   try clear p6
   try clear q6
   try clear hx6
   try clear c7b0
   try clear hcz10
   try clear hcz13
   try clear hcz17
   try clear hcz19
   try clear hcz20
   try clear hcz22
   try clear hfz10
   try clear hfz13
   try clear hfz17
   try clear hfz19
   try clear hfz20
   try clear hfz22
   try clear hx674_0
   try clear hx674_1
   try clear hx674_10
   try clear hx674_11
   try clear hx674_12
   try clear hx674_13
   try clear hx674_2
   try clear hx674_3
   try clear hx674_4
   try clear hx674_5
   try clear hx674_6
   try clear hx674_7
   try clear hx674_8
   try clear hx674_9
   try clear p674
   try clear q674
   obtain ⟨kq, x31_7, rfl, HA, HJ7, BK675, BK676, HB⟩ := hcut
   cases kq with
   | zero => exact absurd HA.out (by simp [spec_StepOk.j0])
   | succ kj7 =>
    have H := HA.out
    clear HA
    simp only [spec_StepOk.j0] at H
    by_cases c24 : x31_7 = true
    ·subst c24
     replace H := ite_t_ H
     obtain rfl := Option.some.inj H
     go_wp2
     repeat (go_quiet (fail); try go_wp2)
     go_ret
     exact ⟨eq_, bl_⟩
    ·replace c24 := Bool.eq_false_iff.mpr c24
     subst c24
     replace H := ite_f_ H
     have H' := aa_ H
     clear H
     go_wp2
     repeat (go_quiet (fail); try go_wp2)
     go_loopg [7] kj7 (fun kq v7 w' => ∃ (x7_2 : Int), v7 = .int .i64 x7_2 ∧ Aside0 (spec_StepOk.l0 kq l0 a1 x7_2 ((rd_T58 l0 a1).f0.f0) ((rd_T58 l0 a1).f0.f1.f0) ((rd_T58 l0 a1).f0.f1.f1) ((rd_T58 l0 a1).f0.f2) ((rd_T58 l0 a1).f0.f3.f0) ((rd_T58 l0 a1).f0.f3.f1) ((rd_T58 l0 a1).f0.f4.f0) ((rd_T58 l0 a1).f0.f4.f1) ((rd_T58 l0 a1).f0.f5) ((rd_T58 l0 a1).f0.f6) ((rd_T58 l0 a1).f1.f0.f0) ((rd_T58 l0 a1).f1.f0.f1) ((rd_T58 l0 a1).f1.f1) ((rd_T58 l0 a1).f2) ((rd_T58 l0 a1).f0.f0) ((rd_T58 l0 a1).f0.f1.f0) ((rd_T58 l0 a1).f0.f1.f1) ((rd_T58 l0 a1).f0.f2) ((rd_T58 l0 a1).f0.f3.f0) ((rd_T58 l0 a1).f0.f3.f1) ((rd_T58 l0 a1).f0.f4.f0) ((rd_T58 l0 a1).f0.f4.f1) ((rd_T58 l0 a1).f0.f5) ((rd_T58 l0 a1).f0.f6) = some r) ∧ Aside0 (kq ≤ kj7) ∧ Aside0 (w'.heap[gb675]? = some (.cells #[.int .i64 ((rd_T58 l0 a1).f0.f0), .int .i64 ((rd_T58 l0 a1).f0.f1.f0), .int .i64 ((rd_T58 l0 a1).f0.f1.f1), .int .i64 ((rd_T58 l0 a1).f0.f2), .int .i64 ((rd_T58 l0 a1).f0.f3.f0), .int .i64 ((rd_T58 l0 a1).f0.f3.f1), .int .i64 ((rd_T58 l0 a1).f0.f4.f0), .int .i64 ((rd_T58 l0 a1).f0.f4.f1), .int .i64 ((rd_T58 l0 a1).f0.f5), .int .i64 ((rd_T58 l0 a1).f0.f6), .int .i64 ((rd_T58 l0 a1).f1.f0.f0), .int .i64 ((rd_T58 l0 a1).f1.f0.f1), .int .i64 ((rd_T58 l0 a1).f1.f1), (.slice A674_13 ((rd_T58 l0 a1).f2).length c674_13)] 58 (0, 0))) ∧ Aside0 (w'.heap[gb676]? = some (.cells #[.int .i64 ((rd_T58 l0 a1).f0.f0), .int .i64 ((rd_T58 l0 a1).f0.f1.f0), .int .i64 ((rd_T58 l0 a1).f0.f1.f1), .int .i64 ((rd_T58 l0 a1).f0.f2), .int .i64 ((rd_T58 l0 a1).f0.f3.f0), .int .i64 ((rd_T58 l0 a1).f0.f3.f1), .int .i64 ((rd_T58 l0 a1).f0.f4.f0), .int .i64 ((rd_T58 l0 a1).f0.f4.f1), .int .i64 ((rd_T58 l0 a1).f0.f5), .int .i64 ((rd_T58 l0 a1).f0.f6)] 35 (0, 0))) ∧ Aside0 (Below w.heap.size w w'))
     case atStart => exact ⟨(0), rf_, H', ⟨Nat.le_refl _⟩, ⟨bk_ BK675⟩, ⟨bk_ BK676⟩, ⟨bl_⟩⟩
     case round =>
      clear H'
      try clear p2
      try clear c6b0
      try clear p6
      try clear q6
      try clear hx6
      try clear c7b0
      try clear hcz10
      try clear hcz13
      try clear hcz17
      try clear hcz19
      try clear hcz20
      try clear hcz22
      try clear hfz10
      try clear hfz13
      try clear hfz17
      try clear hfz19
      try clear hfz20
      try clear hfz22
      try clear hx674_0
      try clear hx674_1
      try clear hx674_10
      try clear hx674_11
      try clear hx674_12
      try clear hx674_13
      try clear hx674_2
      try clear hx674_3
      try clear hx674_4
      try clear hx674_5
      try clear hx674_6
      try clear hx674_7
      try clear hx674_8
      try clear hx674_9
      try clear p2
      try clear p6
      try clear p674
      try clear q6
      try clear q674
      obtain ⟨x7_2, rfl, HA, HK2, BK675, BK676, HB⟩ := hrel
      cases gk with
      | zero => exact absurd HA.out (by simp [spec_StepOk.l0])
      | succ k2 =>
       have H := HA.out
       clear HA
       simp only [spec_StepOk.l0] at H
       by_cases c25 : x7_2 < (((rd_T58 l0 a1).f2).length : Int)
       ·rw [if_pos c25] at H
        have c25b0 : decide (x7_2 < (((rd_T58 l0 a1).f2).length : Int)) = true := decide_eq_true c25
        clear c25
        obtain ⟨c26b0, H⟩ := ifd_ H
        obtain ⟨t679, A27, H⟩ := bindE_ H
        have HC28 := aa_ H
        clear H
        have hnb29 := NB675_676.out
        have hnc29 := NB676_675.out
        have hcz30 := blk_cell BK675.out
        have hfz30 := blk_frozen BK675.out
        have p678 : 0 ≤ (x7_2 : Int) := od_
        have q678 : x7_2 < (((rd_T58 l0 a1).f2).length : Int) := od_
        obtain ⟨ad678, e678, hx678_0⟩ := Kd.at_int (Kd.C_below HR674_13.out HB.out) x7_2 p678 q678
        cases e678
        replace p678 := eq_true p678
        replace q678 := eq_true q678
        go_upto_if 47 with (first | (go_at_call 31; (with_reducible refine (spec_l01In.calls (rd ((rd_T58 l0 a1).f2) x7_2) 0 (wrap64 (a1 - 1)) t679 _ A27.out).mono ?_); rintro e w' ⟨rfl, ⟨nd, rfl⟩⟩; (try first | exact ⟨rfl, _, World.drewN_drewN _ _ _⟩ | exact ⟨rfl, _, Eq.trans (World.drewN_drewN _ _ _) (congrArg (World.drewN _) (Nat.add_assoc _ _ _))⟩)))
        repeat (go_quiet (first | (go_at_call 31; (with_reducible refine (spec_l01In.calls (rd ((rd_T58 l0 a1).f2) x7_2) 0 (wrap64 (a1 - 1)) t679 _ A27.out).mono ?_); rintro e w' ⟨rfl, ⟨nd, rfl⟩⟩; (try first | exact ⟨rfl, _, World.drewN_drewN _ _ _⟩ | exact ⟨rfl, _, Eq.trans (World.drewN_drewN _ _ _) (congrArg (World.drewN _) (Nat.add_assoc _ _ _))⟩))); go_upto_if 47 with (first | (go_at_call 31; (with_reducible refine (spec_l01In.calls (rd ((rd_T58 l0 a1).f2) x7_2) 0 (wrap64 (a1 - 1)) t679 _ A27.out).mono ?_); rintro e w' ⟨rfl, ⟨nd, rfl⟩⟩; (try first | exact ⟨rfl, _, World.drewN_drewN _ _ _⟩ | exact ⟨rfl, _, Eq.trans (World.drewN_drewN _ _ _) (congrArg (World.drewN _) (Nat.add_assoc _ _ _))⟩))))
        (try simp only [Act.put, sb_, sz_, ss_])
        have H := HC28.out
        clear HC28
        by_cases c31 : t679 = true
        ·subst c31
         replace H := ite_t_ H
         have H' := aa_ H
         clear H
         go_wp2
         repeat (go_quiet (fail); try go_wp2)
         go_roundg k2
         case measure => have := HJ7.out; have := HK2.out; omega
         case rel => exact ⟨(wrap64 (x7_2 + 1)), rf_, H', ⟨by have := HJ7.out; have := HK2.out; omega⟩, ⟨bk_ BK675⟩, ⟨bk_ BK676⟩, ⟨bl_⟩⟩
        ·replace c31 := Bool.eq_false_iff.mpr c31
         subst c31
         replace H := ite_f_ H
         obtain rfl := Option.some.inj H
         go_wp2
         repeat (go_quiet (fail); try go_wp2)
         go_ret
         exact ⟨eq_, bl_⟩
       ·rw [if_neg c25] at H
        have c25b0 : decide (x7_2 < (((rd_T58 l0 a1).f2).length : Int)) = false := decide_eq_false c25
        clear c25
        by_cases c32 : ((rd_T58 l0 a1).f0.f0) = 1
        ·rw [if_pos c32] at H
         have c32b0 : (((rd_T58 l0 a1).f0.f0) == 1) = true := beq_iff_eq.mpr c32
         have c32b1 : (((rd_T58 l0 a1).f0.f0) != 1) = false := bne_eq_false_iff_eq.mpr c32
         clear c32
         by_cases c33 : ((rd_T58 l0 a1).f1.f1) = ((rd_T58 l0 a1).f0.f2)
         ·rw [if_pos c33] at H
          have c33b0 : (((rd_T58 l0 a1).f1.f1) == ((rd_T58 l0 a1).f0.f2)) = true := beq_iff_eq.mpr c33
          have c33b1 : (((rd_T58 l0 a1).f1.f1) != ((rd_T58 l0 a1).f0.f2)) = false := bne_eq_false_iff_eq.mpr c33
          clear c33
          obtain rfl := Option.some.inj H
          have hnb34 := NB675_676.out
          have hnc34 := NB676_675.out
          have hcz35 := blk_cell BK675.out
          have hfz35 := blk_frozen BK675.out
          have hcz36 := blk_cell BK676.out
          have hfz36 := blk_frozen BK676.out
          go_wp2
          repeat (go_quiet (fail); try go_wp2)
          go_ret
          exact ⟨eq_, bl_⟩
         ·rw [if_neg c33] at H
          have c33b0 : (((rd_T58 l0 a1).f1.f1) == ((rd_T58 l0 a1).f0.f2)) = false := beq_eq_false_iff_ne.mpr c33
          have c33b1 : (((rd_T58 l0 a1).f1.f1) != ((rd_T58 l0 a1).f0.f2)) = true := bne_iff_ne.mpr c33
          obtain rfl := Option.some.inj H
          have hnb37 := NB675_676.out
          have hnc37 := NB676_675.out
          have hcz38 := blk_cell BK675.out
          have hfz38 := blk_frozen BK675.out
          have hcz39 := blk_cell BK676.out
          have hfz39 := blk_frozen BK676.out
          go_wp2
          repeat (go_quiet (fail); try go_wp2)
          go_ret
          exact ⟨eq_, bl_⟩
        ·rw [if_neg c32] at H
         have c32b0 : (((rd_T58 l0 a1).f0.f0) == 1) = false := beq_eq_false_iff_ne.mpr c32
         have c32b1 : (((rd_T58 l0 a1).f0.f0) != 1) = true := bne_iff_ne.mpr c32
         by_cases c40 : ((rd_T58 l0 a1).f0.f0) = 2
         ·rw [if_pos c40] at H
          have c40b0 : (((rd_T58 l0 a1).f0.f0) == 2) = true := beq_iff_eq.mpr c40
          have c40b1 : (((rd_T58 l0 a1).f0.f0) != 2) = false := bne_eq_false_iff_eq.mpr c40
          clear c40
          by_cases c41 : (((rd_T58 l0 a1).f2).length : Int) = 1
          ·rw [if_pos c41] at H
           have c41b0 : ((((rd_T58 l0 a1).f2).length : Int) == 1) = true := beq_iff_eq.mpr c41
           have c41b1 : ((((rd_T58 l0 a1).f2).length : Int) != 1) = false := bne_eq_false_iff_eq.mpr c41
           clear c41
           obtain ⟨t680, A42, H⟩ := bindE_ H
           obtain rfl := Option.some.inj H
           have hnb43 := NB675_676.out
           have hnc43 := NB676_675.out
           have hcz44 := blk_cell BK675.out
           have hfz44 := blk_frozen BK675.out
           have hcz45 := blk_cell BK676.out
           have hfz45 := blk_frozen BK676.out
           go_wp2_with (first | (go_at_call 48; (with_reducible refine (spec_l07Shown.calls k2 _ _ l0 a1 ((rd_T58 l0 a1).f0.f3.f0) ((rd_T58 l0 a1).f0.f3.f1) ((rd_T58 l0 a1).f1.f1) t680 _ ?side1 ?side2 A42.out).mono ?_); (case side1 => repeat (first | exact (Kd.C_below HR0.out HB.out) | (with_reducible refine Kd.C_alloc ?_ _) | (with_reducible refine Kd.C_drewN ?_ _) | (with_reducible refine Kd.C_drew ?_))); (case side2 => exact HC0.out); rintro e w46 ⟨rfl, hb⟩; replace BK675 := bkb_ BK675 hb; replace BK676 := bkb_ BK676 hb; replace HB := hbs_ hb; clear hb))
           repeat (go_quiet (first | (go_at_call 48; (with_reducible refine (spec_l07Shown.calls k2 _ _ l0 a1 ((rd_T58 l0 a1).f0.f3.f0) ((rd_T58 l0 a1).f0.f3.f1) ((rd_T58 l0 a1).f1.f1) t680 _ ?side1 ?side2 A42.out).mono ?_); (case side1 => repeat (first | exact (Kd.C_below HR0.out HB.out) | (with_reducible refine Kd.C_alloc ?_ _) | (with_reducible refine Kd.C_drewN ?_ _) | (with_reducible refine Kd.C_drew ?_))); (case side2 => exact HC0.out); rintro e w46 ⟨rfl, hb⟩; replace BK675 := bkb_ BK675 hb; replace BK676 := bkb_ BK676 hb; replace HB := hbs_ hb; clear hb)); try go_wp2_with (first | (go_at_call 48; (with_reducible refine (spec_l07Shown.calls k2 _ _ l0 a1 ((rd_T58 l0 a1).f0.f3.f0) ((rd_T58 l0 a1).f0.f3.f1) ((rd_T58 l0 a1).f1.f1) t680 _ ?side1 ?side2 A42.out).mono ?_); (case side1 => repeat (first | exact (Kd.C_below HR0.out HB.out) | (with_reducible refine Kd.C_alloc ?_ _) | (with_reducible refine Kd.C_drewN ?_ _) | (with_reducible refine Kd.C_drew ?_))); (case side2 => exact HC0.out); rintro e w46 ⟨rfl, hb⟩; replace BK675 := bkb_ BK675 hb; replace BK676 := bkb_ BK676 hb; replace HB := hbs_ hb; clear hb)))
           go_ret
           exact ⟨eq_, bl_⟩
          ·rw [if_neg c41] at H
           have c41b0 : ((((rd_T58 l0 a1).f2).length : Int) == 1) = false := beq_eq_false_iff_ne.mpr c41
           have c41b1 : ((((rd_T58 l0 a1).f2).length : Int) != 1) = true := bne_iff_ne.mpr c41
           obtain rfl := Option.some.inj H
           have hnb47 := NB675_676.out
           have hnc47 := NB676_675.out
           have hcz48 := blk_cell BK675.out
           have hfz48 := blk_frozen BK675.out
           have hcz49 := blk_cell BK676.out
           have hfz49 := blk_frozen BK676.out
           go_wp2
           repeat (go_quiet (fail); try go_wp2)
           go_ret
           exact ⟨eq_, bl_⟩
         ·rw [if_neg c40] at H
          have c40b0 : (((rd_T58 l0 a1).f0.f0) == 2) = false := beq_eq_false_iff_ne.mpr c40
          have c40b1 : (((rd_T58 l0 a1).f0.f0) != 2) = true := bne_iff_ne.mpr c40
          by_cases c50 : ((rd_T58 l0 a1).f0.f0) = 4
          ·rw [if_pos c50] at H
           have c50b0 : (((rd_T58 l0 a1).f0.f0) == 4) = true := beq_iff_eq.mpr c50
           have c50b1 : (((rd_T58 l0 a1).f0.f0) != 4) = false := bne_eq_false_iff_eq.mpr c50
           clear c50
           by_cases c51 : (((rd_T58 l0 a1).f2).length : Int) = 2
           ·rw [if_pos c51] at H
            have c51b0 : ((((rd_T58 l0 a1).f2).length : Int) == 2) = true := beq_iff_eq.mpr c51
            have c51b1 : ((((rd_T58 l0 a1).f2).length : Int) != 2) = false := bne_eq_false_iff_eq.mpr c51
            clear c51
            obtain ⟨c52, H⟩ := ifn_ H
            have c52b0 : decide (0 < (((rd_T58 l0 a1).f2).length : Int)) = true := decide_eq_true c52
            have c52b1 : decide (0 < ((rd_T58 l0 a1).f2).length) = true := decide_eq_true (by omega)
            clear c52
            obtain ⟨c53b0, H⟩ := ifd_ H
            obtain ⟨c54b0, H⟩ := ifd_ H
            by_cases c55 : ((((rd_T58 l0 (rd ((rd_T58 l0 a1).f2) 0)).f1.f0.f0) == ((rd_T58 l0 a1).f0.f3.f0) && (((rd_T58 l0 (rd ((rd_T58 l0 a1).f2) 0)).f1.f0.f1) == ((rd_T58 l0 a1).f0.f3.f1))) && (((rd_T58 l0 (rd ((rd_T58 l0 a1).f2) 0)).f1.f1) == ((rd_T58 l0 a1).f1.f1))) = true
            ·rw [if_pos c55] at H
             have c55b0 : ((((rd_T58 l0 (rd ((rd_T58 l0 a1).f2) 0)).f1.f0.f0) == ((rd_T58 l0 a1).f0.f3.f0) && (((rd_T58 l0 (rd ((rd_T58 l0 a1).f2) 0)).f1.f0.f1) == ((rd_T58 l0 a1).f0.f3.f1))) && (((rd_T58 l0 (rd ((rd_T58 l0 a1).f2) 0)).f1.f1) == ((rd_T58 l0 a1).f1.f1))) = true := c55
             clear c55
             obtain ⟨c56, H⟩ := ifn_ H
             have c56b0 : decide (1 < (((rd_T58 l0 a1).f2).length : Int)) = true := decide_eq_true c56
             have c56b1 : decide (1 < ((rd_T58 l0 a1).f2).length) = true := decide_eq_true (by omega)
             clear c56
             obtain ⟨c57b0, H⟩ := ifd_ H
             obtain ⟨c58b0, H⟩ := ifd_ H
             obtain rfl := Option.some.inj H
             have hnb59 := NB675_676.out
             have hnc59 := NB676_675.out
             have hcz60 := blk_cell BK675.out
             have hfz60 := blk_frozen BK675.out
             have hcz61 := blk_cell BK676.out
             have hfz61 := blk_frozen BK676.out
             have p681 : 0 ≤ (0 : Int) := (by omega)
             have q681 : 0 < (((rd_T58 l0 a1).f2).length : Int) := od_
             obtain ⟨ad681, e681, hx681_0⟩ := Kd.at_int HR674_13.out 0 p681 q681
             cases e681
             have qi681 : (0 < ((rd_T58 l0 a1).f2).length) = True := eq_true (by omega)
             (try rw [show ((0 : Int)).toNat = 0 from rfl] at hx681_0)
             (try rw [Addr.add_zero'] at hx681_0)
             replace hx681_0 := cb_ HB hx681_0
             replace p681 := eq_true p681
             replace q681 := eq_true q681
             have p682 : 0 ≤ ((rd ((rd_T58 l0 a1).f2) 0) : Int) := od_
             have q682 : (rd ((rd_T58 l0 a1).f2) 0) < (l0.length : Int) := od_
             obtain ⟨ad682, A682_13, c682_13, e682, hx682_0, hx682_1, hx682_2, hx682_3, hx682_4, hx682_5, hx682_6, hx682_7, hx682_8, hx682_9, hx682_10, hx682_11, hx682_12, hx682_13, hl682_13, hi682_13⟩ := at_T58 HR0.out (rd ((rd_T58 l0 a1).f2) 0) p682 q682
             obtain rfl : ad674 = ad682 := (by injection e682)
             replace hx682_0 := cb_ HB hx682_0
             replace hx682_1 := cb_ HB hx682_1
             replace hx682_2 := cb_ HB hx682_2
             replace hx682_3 := cb_ HB hx682_3
             replace hx682_4 := cb_ HB hx682_4
             replace hx682_5 := cb_ HB hx682_5
             replace hx682_6 := cb_ HB hx682_6
             replace hx682_7 := cb_ HB hx682_7
             replace hx682_8 := cb_ HB hx682_8
             replace hx682_9 := cb_ HB hx682_9
             replace hx682_10 := cb_ HB hx682_10
             replace hx682_11 := cb_ HB hx682_11
             replace hx682_12 := cb_ HB hx682_12
             replace hx682_13 := cb_ HB hx682_13
             have HR682_13 := aa_ hi682_13
             have HC682_13 := aa_ hl682_13
             clear hi682_13 hl682_13
             replace p682 := eq_true p682
             replace q682 := eq_true q682
             have p683 : 0 ≤ (1 : Int) := (by omega)
             have q683 : 1 < (((rd_T58 l0 a1).f2).length : Int) := od_
             obtain ⟨ad683, e683, hx683_0⟩ := Kd.at_int HR674_13.out 1 p683 q683
             obtain rfl : ad681 = ad683 := (by injection e683)
             (try simp only [show (1 : Int).toNat = 1 from rfl, Nat.reduceMul, Nat.reduceEqDiff, Go.Addr.add, ↓reduceIte] at hx683_0)
             have qi683 : (1 < ((rd_T58 l0 a1).f2).length) = True := eq_true (by omega)
             (try rw [show ((1 : Int)).toNat = 1 from rfl] at hx683_0)
             replace hx683_0 := cb_ HB hx683_0
             replace p683 := eq_true p683
             replace q683 := eq_true q683
             have p684 : 0 ≤ ((rd ((rd_T58 l0 a1).f2) 1) : Int) := od_
             have q684 : (rd ((rd_T58 l0 a1).f2) 1) < (l0.length : Int) := od_
             obtain ⟨ad684, A684_13, c684_13, e684, hx684_0, hx684_1, hx684_2, hx684_3, hx684_4, hx684_5, hx684_6, hx684_7, hx684_8, hx684_9, hx684_10, hx684_11, hx684_12, hx684_13, hl684_13, hi684_13⟩ := at_T58 HR0.out (rd ((rd_T58 l0 a1).f2) 1) p684 q684
             obtain rfl : ad674 = ad684 := (by injection e684)
             replace hx684_0 := cb_ HB hx684_0
             replace hx684_1 := cb_ HB hx684_1
             replace hx684_2 := cb_ HB hx684_2
             replace hx684_3 := cb_ HB hx684_3
             replace hx684_4 := cb_ HB hx684_4
             replace hx684_5 := cb_ HB hx684_5
             replace hx684_6 := cb_ HB hx684_6
             replace hx684_7 := cb_ HB hx684_7
             replace hx684_8 := cb_ HB hx684_8
             replace hx684_9 := cb_ HB hx684_9
             replace hx684_10 := cb_ HB hx684_10
             replace hx684_11 := cb_ HB hx684_11
             replace hx684_12 := cb_ HB hx684_12
             replace hx684_13 := cb_ HB hx684_13
             have HR684_13 := aa_ hi684_13
             have HC684_13 := aa_ hl684_13
             clear hi684_13 hl684_13
             replace p684 := eq_true p684
             replace q684 := eq_true q684
             go_wp2
             repeat (go_quiet (fail); try go_wp2)
             go_ret
             exact ⟨eq_, bl_⟩
            ·rw [if_neg c55] at H
             have c55b0 : ((((rd_T58 l0 (rd ((rd_T58 l0 a1).f2) 0)).f1.f0.f0) == ((rd_T58 l0 a1).f0.f3.f0) && (((rd_T58 l0 (rd ((rd_T58 l0 a1).f2) 0)).f1.f0.f1) == ((rd_T58 l0 a1).f0.f3.f1))) && (((rd_T58 l0 (rd ((rd_T58 l0 a1).f2) 0)).f1.f1) == ((rd_T58 l0 a1).f1.f1))) = false := by simpa using c55
             clear c55
             obtain rfl := Option.some.inj H
             have hnb62 := NB675_676.out
             have hnc62 := NB676_675.out
             have hcz63 := blk_cell BK675.out
             have hfz63 := blk_frozen BK675.out
             have hcz64 := blk_cell BK676.out
             have hfz64 := blk_frozen BK676.out
             have p681 : 0 ≤ (0 : Int) := (by omega)
             have q681 : 0 < (((rd_T58 l0 a1).f2).length : Int) := od_
             obtain ⟨ad681, e681, hx681_0⟩ := Kd.at_int HR674_13.out 0 p681 q681
             cases e681
             have qi681 : (0 < ((rd_T58 l0 a1).f2).length) = True := eq_true (by omega)
             (try rw [show ((0 : Int)).toNat = 0 from rfl] at hx681_0)
             (try rw [Addr.add_zero'] at hx681_0)
             replace hx681_0 := cb_ HB hx681_0
             replace p681 := eq_true p681
             replace q681 := eq_true q681
             have p682 : 0 ≤ ((rd ((rd_T58 l0 a1).f2) 0) : Int) := od_
             have q682 : (rd ((rd_T58 l0 a1).f2) 0) < (l0.length : Int) := od_
             obtain ⟨ad682, A682_13, c682_13, e682, hx682_0, hx682_1, hx682_2, hx682_3, hx682_4, hx682_5, hx682_6, hx682_7, hx682_8, hx682_9, hx682_10, hx682_11, hx682_12, hx682_13, hl682_13, hi682_13⟩ := at_T58 HR0.out (rd ((rd_T58 l0 a1).f2) 0) p682 q682
             obtain rfl : ad674 = ad682 := (by injection e682)
             replace hx682_0 := cb_ HB hx682_0
             replace hx682_1 := cb_ HB hx682_1
             replace hx682_2 := cb_ HB hx682_2
             replace hx682_3 := cb_ HB hx682_3
             replace hx682_4 := cb_ HB hx682_4
             replace hx682_5 := cb_ HB hx682_5
             replace hx682_6 := cb_ HB hx682_6
             replace hx682_7 := cb_ HB hx682_7
             replace hx682_8 := cb_ HB hx682_8
             replace hx682_9 := cb_ HB hx682_9
             replace hx682_10 := cb_ HB hx682_10
             replace hx682_11 := cb_ HB hx682_11
             replace hx682_12 := cb_ HB hx682_12
             replace hx682_13 := cb_ HB hx682_13
             have HR682_13 := aa_ hi682_13
             have HC682_13 := aa_ hl682_13
             clear hi682_13 hl682_13
             replace p682 := eq_true p682
             replace q682 := eq_true q682
             go_wp2
             repeat (go_quiet (fail); try go_wp2)
             go_ret
             exact ⟨eq_, bl_⟩
           ·rw [if_neg c51] at H
            have c51b0 : ((((rd_T58 l0 a1).f2).length : Int) == 2) = false := beq_eq_false_iff_ne.mpr c51
            have c51b1 : ((((rd_T58 l0 a1).f2).length : Int) != 2) = true := bne_iff_ne.mpr c51
            obtain rfl := Option.some.inj H
            have hnb65 := NB675_676.out
            have hnc65 := NB676_675.out
            have hcz66 := blk_cell BK675.out
            have hfz66 := blk_frozen BK675.out
            have hcz67 := blk_cell BK676.out
            have hfz67 := blk_frozen BK676.out
            go_wp2
            repeat (go_quiet (fail); try go_wp2)
            go_ret
            exact ⟨eq_, bl_⟩
          ·rw [if_neg c50] at H
           have c50b0 : (((rd_T58 l0 a1).f0.f0) == 4) = false := beq_eq_false_iff_ne.mpr c50
           have c50b1 : (((rd_T58 l0 a1).f0.f0) != 4) = true := bne_iff_ne.mpr c50
           by_cases c68 : (((rd_T58 l0 a1).f2).length : Int) = 2
           ·rw [if_pos c68] at H
            have c68b0 : ((((rd_T58 l0 a1).f2).length : Int) == 2) = true := beq_iff_eq.mpr c68
            have c68b1 : ((((rd_T58 l0 a1).f2).length : Int) != 2) = false := bne_eq_false_iff_eq.mpr c68
            clear c68
            obtain ⟨c69, H⟩ := ifn_ H
            have c69b0 : decide (0 < (((rd_T58 l0 a1).f2).length : Int)) = true := decide_eq_true c69
            have c69b1 : decide (0 < ((rd_T58 l0 a1).f2).length) = true := decide_eq_true (by omega)
            clear c69
            obtain ⟨c70b0, H⟩ := ifd_ H
            obtain ⟨c71b0, H⟩ := ifd_ H
            have HC72 := aa_ H
            clear H
            have hnb73 := NB675_676.out
            have hnc73 := NB676_675.out
            have hcz74 := blk_cell BK675.out
            have hfz74 := blk_frozen BK675.out
            have hcz75 := blk_cell BK676.out
            have hfz75 := blk_frozen BK676.out
            have p685 : 0 ≤ (0 : Int) := (by omega)
            have q685 : 0 < (((rd_T58 l0 a1).f2).length : Int) := od_
            obtain ⟨ad685, e685, hx685_0⟩ := Kd.at_int HR674_13.out 0 p685 q685
            cases e685
            have qi685 : (0 < ((rd_T58 l0 a1).f2).length) = True := eq_true (by omega)
            (try rw [show ((0 : Int)).toNat = 0 from rfl] at hx685_0)
            (try rw [Addr.add_zero'] at hx685_0)
            replace hx685_0 := cb_ HB hx685_0
            replace p685 := eq_true p685
            replace q685 := eq_true q685
            have p686 : 0 ≤ ((rd ((rd_T58 l0 a1).f2) 0) : Int) := od_
            have q686 : (rd ((rd_T58 l0 a1).f2) 0) < (l0.length : Int) := od_
            obtain ⟨ad686, A686_13, c686_13, e686, hx686_0, hx686_1, hx686_2, hx686_3, hx686_4, hx686_5, hx686_6, hx686_7, hx686_8, hx686_9, hx686_10, hx686_11, hx686_12, hx686_13, hl686_13, hi686_13⟩ := at_T58 HR0.out (rd ((rd_T58 l0 a1).f2) 0) p686 q686
            obtain rfl : ad674 = ad686 := (by injection e686)
            replace hx686_0 := cb_ HB hx686_0
            replace hx686_1 := cb_ HB hx686_1
            replace hx686_2 := cb_ HB hx686_2
            replace hx686_3 := cb_ HB hx686_3
            replace hx686_4 := cb_ HB hx686_4
            replace hx686_5 := cb_ HB hx686_5
            replace hx686_6 := cb_ HB hx686_6
            replace hx686_7 := cb_ HB hx686_7
            replace hx686_8 := cb_ HB hx686_8
            replace hx686_9 := cb_ HB hx686_9
            replace hx686_10 := cb_ HB hx686_10
            replace hx686_11 := cb_ HB hx686_11
            replace hx686_12 := cb_ HB hx686_12
            replace hx686_13 := cb_ HB hx686_13
            have HR686_13 := aa_ hi686_13
            have HC686_13 := aa_ hl686_13
            clear hi686_13 hl686_13
            replace p686 := eq_true p686
            replace q686 := eq_true q686
            go_upto_if 138 with (fail)
            repeat (go_quiet (fail); go_upto_if 138 with (fail))
            have H := HC72.out
            clear HC72
            by_cases c76 : (!(((rd_T58 l0 (rd ((rd_T58 l0 a1).f2) 0)).f1.f0.f0) == ((rd_T58 l0 a1).f0.f3.f0)) || (!(((rd_T58 l0 (rd ((rd_T58 l0 a1).f2) 0)).f1.f0.f1) == ((rd_T58 l0 a1).f0.f3.f1)))) = true
            ·rw [if_pos c76] at H
             have c76b0 : (!(((rd_T58 l0 (rd ((rd_T58 l0 a1).f2) 0)).f1.f0.f0) == ((rd_T58 l0 a1).f0.f3.f0)) || (!(((rd_T58 l0 (rd ((rd_T58 l0 a1).f2) 0)).f1.f0.f1) == ((rd_T58 l0 a1).f0.f3.f1)))) = true := c76
             clear c76
             (first | rw [c76b0] | (simp only [i64_w, i32_w]; rw [c76b0]) | skip)
             obtain rfl := Option.some.inj H
             go_wp2
             repeat (go_quiet (fail); try go_wp2)
             go_ret
             exact ⟨eq_, bl_⟩
            ·rw [if_neg c76] at H
             have c76b0 : (!(((rd_T58 l0 (rd ((rd_T58 l0 a1).f2) 0)).f1.f0.f0) == ((rd_T58 l0 a1).f0.f3.f0)) || (!(((rd_T58 l0 (rd ((rd_T58 l0 a1).f2) 0)).f1.f0.f1) == ((rd_T58 l0 a1).f0.f3.f1)))) = false := by simpa using c76
             clear c76
             (first | rw [c76b0] | (simp only [i64_w, i32_w]; rw [c76b0]) | skip)
             obtain ⟨c77, H⟩ := ifn_ H
             have c77b0 : decide (1 < (((rd_T58 l0 a1).f2).length : Int)) = true := decide_eq_true c77
             have c77b1 : decide (1 < ((rd_T58 l0 a1).f2).length) = true := decide_eq_true (by omega)
             clear c77
             obtain ⟨c78b0, H⟩ := ifd_ H
             obtain ⟨c79b0, H⟩ := ifd_ H
             obtain rfl := Option.some.inj H
             have hnb80 := NB675_676.out
             have hnc80 := NB676_675.out
             have hcz81 := blk_cell BK675.out
             have hfz81 := blk_frozen BK675.out
             have p687 : 0 ≤ (0 : Int) := (by omega)
             have q687 : 0 < (((rd_T58 l0 a1).f2).length : Int) := od_
             obtain ⟨ad687, e687, hx687_0⟩ := Kd.at_int HR674_13.out 0 p687 q687
             obtain rfl : ad685 = ad687 := (by injection e687)
             have qi687 : (0 < ((rd_T58 l0 a1).f2).length) = True := eq_true (by omega)
             (try rw [show ((0 : Int)).toNat = 0 from rfl] at hx687_0)
             (try rw [Addr.add_zero'] at hx687_0)
             replace hx687_0 := cb_ HB hx687_0
             replace p687 := eq_true p687
             replace q687 := eq_true q687
             have p688 : 0 ≤ ((rd ((rd_T58 l0 a1).f2) 0) : Int) := od_
             have q688 : (rd ((rd_T58 l0 a1).f2) 0) < (l0.length : Int) := od_
             obtain ⟨ad688, A688_13, c688_13, e688, hx688_0, hx688_1, hx688_2, hx688_3, hx688_4, hx688_5, hx688_6, hx688_7, hx688_8, hx688_9, hx688_10, hx688_11, hx688_12, hx688_13, hl688_13, hi688_13⟩ := at_T58 HR0.out (rd ((rd_T58 l0 a1).f2) 0) p688 q688
             obtain rfl : ad674 = ad688 := (by injection e688)
             replace hx688_0 := cb_ HB hx688_0
             replace hx688_1 := cb_ HB hx688_1
             replace hx688_2 := cb_ HB hx688_2
             replace hx688_3 := cb_ HB hx688_3
             replace hx688_4 := cb_ HB hx688_4
             replace hx688_5 := cb_ HB hx688_5
             replace hx688_6 := cb_ HB hx688_6
             replace hx688_7 := cb_ HB hx688_7
             replace hx688_8 := cb_ HB hx688_8
             replace hx688_9 := cb_ HB hx688_9
             replace hx688_10 := cb_ HB hx688_10
             replace hx688_11 := cb_ HB hx688_11
             replace hx688_12 := cb_ HB hx688_12
             replace hx688_13 := cb_ HB hx688_13
             have HR688_13 := aa_ hi688_13
             have HC688_13 := aa_ hl688_13
             clear hi688_13 hl688_13
             replace p688 := eq_true p688
             replace q688 := eq_true q688
             have p689 : 0 ≤ (1 : Int) := (by omega)
             have q689 : 1 < (((rd_T58 l0 a1).f2).length : Int) := od_
             obtain ⟨ad689, e689, hx689_0⟩ := Kd.at_int HR674_13.out 1 p689 q689
             obtain rfl : ad685 = ad689 := (by injection e689)
             (try simp only [show (1 : Int).toNat = 1 from rfl, Nat.reduceMul, Nat.reduceEqDiff, Go.Addr.add, ↓reduceIte] at hx689_0)
             have qi689 : (1 < ((rd_T58 l0 a1).f2).length) = True := eq_true (by omega)
             (try rw [show ((1 : Int)).toNat = 1 from rfl] at hx689_0)
             replace hx689_0 := cb_ HB hx689_0
             replace p689 := eq_true p689
             replace q689 := eq_true q689
             have p690 : 0 ≤ ((rd ((rd_T58 l0 a1).f2) 1) : Int) := od_
             have q690 : (rd ((rd_T58 l0 a1).f2) 1) < (l0.length : Int) := od_
             obtain ⟨ad690, A690_13, c690_13, e690, hx690_0, hx690_1, hx690_2, hx690_3, hx690_4, hx690_5, hx690_6, hx690_7, hx690_8, hx690_9, hx690_10, hx690_11, hx690_12, hx690_13, hl690_13, hi690_13⟩ := at_T58 HR0.out (rd ((rd_T58 l0 a1).f2) 1) p690 q690
             obtain rfl : ad674 = ad690 := (by injection e690)
             replace hx690_0 := cb_ HB hx690_0
             replace hx690_1 := cb_ HB hx690_1
             replace hx690_2 := cb_ HB hx690_2
             replace hx690_3 := cb_ HB hx690_3
             replace hx690_4 := cb_ HB hx690_4
             replace hx690_5 := cb_ HB hx690_5
             replace hx690_6 := cb_ HB hx690_6
             replace hx690_7 := cb_ HB hx690_7
             replace hx690_8 := cb_ HB hx690_8
             replace hx690_9 := cb_ HB hx690_9
             replace hx690_10 := cb_ HB hx690_10
             replace hx690_11 := cb_ HB hx690_11
             replace hx690_12 := cb_ HB hx690_12
             replace hx690_13 := cb_ HB hx690_13
             have HR690_13 := aa_ hi690_13
             have HC690_13 := aa_ hl690_13
             clear hi690_13 hl690_13
             replace p690 := eq_true p690
             replace q690 := eq_true q690
             have hcz82 := blk_cell BK676.out
             have hfz82 := blk_frozen BK676.out
             go_wp2
             repeat (go_quiet (fail); try go_wp2)
             go_ret
             exact ⟨eq_, bl_⟩
           ·rw [if_neg c68] at H
            have c68b0 : ((((rd_T58 l0 a1).f2).length : Int) == 2) = false := beq_eq_false_iff_ne.mpr c68
            have c68b1 : ((((rd_T58 l0 a1).f2).length : Int) != 2) = true := bne_iff_ne.mpr c68
            obtain rfl := Option.some.inj H
            have hnb83 := NB675_676.out
            have hnc83 := NB676_675.out
            have hcz84 := blk_cell BK675.out
            have hfz84 := blk_frozen BK675.out
            have hcz85 := blk_cell BK676.out
            have hfz85 := blk_frozen BK676.out
            go_wp2
            repeat (go_quiet (fail); try go_wp2)
            go_ret
            exact ⟨eq_, bl_⟩
 ·replace c5 := Bool.eq_false_iff.mpr c5
  subst c5
  replace H := ite_f_ H
  obtain rfl := Option.some.inj H
  go_wp2
  repeat (go_quiet (fail); try go_wp2)
  go_ret
  exact ⟨eq_, bl_⟩
end Go.Proofs.Ytljhfomkakhflaa.PA
