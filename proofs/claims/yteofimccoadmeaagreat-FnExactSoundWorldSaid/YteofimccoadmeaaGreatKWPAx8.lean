import Derived.Test.YteofimccoadmeaaGreatKWPAx7
-- printed by wip/tools
namespace Go.Proofs.YteofimccoadmeaaGreat.PA
open Go.RowKit Go.Proofs.YteofimccoadmeaaGreatW.PrintWords Go.Proofs.YteofimccoadmeaaGreatW.PrintLast Go.Proofs.YteofimccoadmeaaGreatW.PrintMore
attribute [local go_sem] max2_int min2_int max_two min_two max_three min_three max_four min_four
set_option linter.unusedVariables false
set_option linter.unusedSimpArgs false
attribute [local go_sem high] eqA77 eqA79
mutual
def spec_StepOk.j0 : Nat → List (S111) → Int → Bool → Int → Int → Int → Int → Int → Int → Int → Int → Int → Int → Int → Int → Int → List Int → Int → Int → Int → Int → Int → Int → Int → Int → Int → Int → Option (Bool)
 | 0, _, _, _, _, _, _, _, _, _, _, _, _, _, _, _, _, _, _, _, _, _, _, _, _, _, _, _ => none
 | k + 1, x0, x1, x31, x200000, x200001, x200002, x200003, x200004, x200005, x200006, x200007, x200008, x200009, x200010, x200011, x200012, x200013, x201000, x201001, x201002, x201003, x201004, x201005, x201006, x201007, x201008, x201009 => if x31 = true then (some false) else (spec_StepOk.l0 k x0 x1 0 x200000 x200001 x200002 x200003 x200004 x200005 x200006 x200007 x200008 x200009 x200010 x200011 x200012 x200013 x201000 x201001 x201002 x201003 x201004 x201005 x201006 x201007 x201008 x201009)
def spec_StepOk.l0 : Nat → List (S111) → Int → Int → Int → Int → Int → Int → Int → Int → Int → Int → Int → Int → Int → Int → Int → List Int → Int → Int → Int → Int → Int → Int → Int → Int → Int → Int → Option (Bool)
 | 0, _, _, _, _, _, _, _, _, _, _, _, _, _, _, _, _, _, _, _, _, _, _, _, _, _, _, _ => none
 | k + 1, x0, x1, x7, x200000, x200001, x200002, x200003, x200004, x200005, x200006, x200007, x200008, x200009, x200010, x200011, x200012, x200013, x201000, x201001, x201002, x201003, x201004, x201005, x201006, x201007, x201008, x201009 => if x7 < (x200013.length : Int) then (if 0 ≤ x7 then ((spec_l01In.f (rd x200013 x7) 0 (wrap64 (x1 - 1))).bind fun t203 => (if t203 = true then (spec_StepOk.l0 k x0 x1 (wrap64 (x7 + 1)) x200000 x200001 x200002 x200003 x200004 x200005 x200006 x200007 x200008 x200009 x200010 x200011 x200012 x200013 x201000 x201001 x201002 x201003 x201004 x201005 x201006 x201007 x201008 x201009) else (some false))) else (none)) else (if x201000 = 1 then (if x200012 = x201003 then (some ((x200013.length : Int) == 0)) else (some false)) else (if x201000 = 2 then (if (x200013.length : Int) = 1 then ((spec_l07Shown.f k x0 x1 x201004 x201005 x200012).bind fun t204 => (some t204)) else (some false)) else (if x201000 = 4 then (if (x200013.length : Int) = 2 then (if 0 < (x200013.length : Int) then (if 0 ≤ (rd x200013 0) then (if (rd x200013 0) < (x0.length : Int) then (if ((((rd_T111 x0 (rd x200013 0)).f1.f0.f0) == x201004 && (((rd_T111 x0 (rd x200013 0)).f1.f0.f1) == x201005)) && (((rd_T111 x0 (rd x200013 0)).f1.f1) == x200012)) = true then (if 1 < (x200013.length : Int) then (if 0 ≤ (rd x200013 1) then (if (rd x200013 1) < (x0.length : Int) then (some ((((rd_T111 x0 (rd x200013 1)).f1.f0.f0) == x201006 && (((rd_T111 x0 (rd x200013 1)).f1.f0.f1) == x201007)) && (((rd_T111 x0 (rd x200013 1)).f1.f1) == x200012))) else (none)) else (none)) else (none)) else (some false)) else (none)) else (none)) else (none)) else (some false)) else (if (x200013.length : Int) = 2 then (if 0 < (x200013.length : Int) then (if 0 ≤ (rd x200013 0) then (if (rd x200013 0) < (x0.length : Int) then (if (!(((rd_T111 x0 (rd x200013 0)).f1.f0.f0) == x201004) || (!(((rd_T111 x0 (rd x200013 0)).f1.f0.f1) == x201005))) = true then (some false) else (if 1 < (x200013.length : Int) then (if 0 ≤ (rd x200013 1) then (if (rd x200013 1) < (x0.length : Int) then (some ((((rd_T111 x0 (rd x200013 1)).f1.f0.f0) == ((rd_T111 x0 (rd x200013 0)).f1.f1) && (((rd_T111 x0 (rd x200013 1)).f1.f0.f1) == x201007)) && (((rd_T111 x0 (rd x200013 1)).f1.f1) == x200012))) else (none)) else (none)) else (none))) else (none)) else (none)) else (none)) else (some false)))))
end
def spec_StepOk.f (k : Nat) (l0 : List (S111)) (a1 : Int) : Option (Bool) := (spec_l01In.f a1 0 (wrap64 ((l0.length : Int) - 1))).bind fun t197 => (if t197 = true then (if 0 ≤ a1 then (if a1 < (l0.length : Int) then ((spec_CredOk.f k ((rd_T111 l0 a1).f0.f0) ((rd_T111 l0 a1).f0.f1.f0) ((rd_T111 l0 a1).f0.f1.f1) ((rd_T111 l0 a1).f0.f2) ((rd_T111 l0 a1).f0.f3.f0) ((rd_T111 l0 a1).f0.f3.f1) ((rd_T111 l0 a1).f0.f4.f0) ((rd_T111 l0 a1).f0.f4.f1) ((rd_T111 l0 a1).f0.f5) ((rd_T111 l0 a1).f0.f6)).bind fun t201 => (if t201 = true then (spec_StepOk.j0 k l0 a1 (!(((rd_T111 l0 a1).f1.f0.f0) == ((rd_T111 l0 a1).f0.f1.f0)) || (!(((rd_T111 l0 a1).f1.f0.f1) == ((rd_T111 l0 a1).f0.f1.f1)))) ((rd_T111 l0 a1).f0.f0) ((rd_T111 l0 a1).f0.f1.f0) ((rd_T111 l0 a1).f0.f1.f1) ((rd_T111 l0 a1).f0.f2) ((rd_T111 l0 a1).f0.f3.f0) ((rd_T111 l0 a1).f0.f3.f1) ((rd_T111 l0 a1).f0.f4.f0) ((rd_T111 l0 a1).f0.f4.f1) ((rd_T111 l0 a1).f0.f5) ((rd_T111 l0 a1).f0.f6) ((rd_T111 l0 a1).f1.f0.f0) ((rd_T111 l0 a1).f1.f0.f1) ((rd_T111 l0 a1).f1.f1) ((rd_T111 l0 a1).f2) ((rd_T111 l0 a1).f0.f0) ((rd_T111 l0 a1).f0.f1.f0) ((rd_T111 l0 a1).f0.f1.f1) ((rd_T111 l0 a1).f0.f2) ((rd_T111 l0 a1).f0.f3.f0) ((rd_T111 l0 a1).f0.f3.f1) ((rd_T111 l0 a1).f0.f4.f0) ((rd_T111 l0 a1).f0.f4.f1) ((rd_T111 l0 a1).f0.f5) ((rd_T111 l0 a1).f0.f6)) else (spec_StepOk.j0 k l0 a1 true ((rd_T111 l0 a1).f0.f0) ((rd_T111 l0 a1).f0.f1.f0) ((rd_T111 l0 a1).f0.f1.f1) ((rd_T111 l0 a1).f0.f2) ((rd_T111 l0 a1).f0.f3.f0) ((rd_T111 l0 a1).f0.f3.f1) ((rd_T111 l0 a1).f0.f4.f0) ((rd_T111 l0 a1).f0.f4.f1) ((rd_T111 l0 a1).f0.f5) ((rd_T111 l0 a1).f0.f6) ((rd_T111 l0 a1).f1.f0.f0) ((rd_T111 l0 a1).f1.f0.f1) ((rd_T111 l0 a1).f1.f1) ((rd_T111 l0 a1).f2) ((rd_T111 l0 a1).f0.f0) ((rd_T111 l0 a1).f0.f1.f0) ((rd_T111 l0 a1).f0.f1.f1) ((rd_T111 l0 a1).f0.f2) ((rd_T111 l0 a1).f0.f3.f0) ((rd_T111 l0 a1).f0.f3.f1) ((rd_T111 l0 a1).f0.f4.f0) ((rd_T111 l0 a1).f0.f4.f1) ((rd_T111 l0 a1).f0.f5) ((rd_T111 l0 a1).f0.f6)))) else (none)) else (none)) else (some false))
set_option maxHeartbeats 8000000 in
set_option maxRecDepth 100000 in
theorem spec_StepOk.calls (k : Nat) (A0 : Option Addr) (c0 : Nat) (l0 : List (S111)) (a1 : Int) (r : Bool) (w : World) (hr0 : Kd.C k111 w A0 l0.length l0) (hc0 : l0.length ≤ c0) (h : spec_StepOk.f k l0 a1 = some r) :
  Calls Tryz.prog 82 #[.slice A0 l0.length c0, .int .i64 a1] w fun e w' => e = .returned (.bool r) ∧ Below w.heap.size w w' := by
 have hu111 := Tryz.underlying111
 have hu83 := Tryz.underlying83
 have hu77 := Tryz.underlying77
 have hu79 := Tryz.underlying79
 have HR0 := aa_ hr0
 have HC0 := aa_ hc0
 clear hr0 hc0
 have HB := aa_ (Below.refl w.heap.size w)
 have H : ((spec_l01In.f a1 0 (wrap64 ((l0.length : Int) - 1))).bind fun t197 => (if t197 = true then (if 0 ≤ a1 then (if a1 < (l0.length : Int) then ((spec_CredOk.f k ((rd_T111 l0 a1).f0.f0) ((rd_T111 l0 a1).f0.f1.f0) ((rd_T111 l0 a1).f0.f1.f1) ((rd_T111 l0 a1).f0.f2) ((rd_T111 l0 a1).f0.f3.f0) ((rd_T111 l0 a1).f0.f3.f1) ((rd_T111 l0 a1).f0.f4.f0) ((rd_T111 l0 a1).f0.f4.f1) ((rd_T111 l0 a1).f0.f5) ((rd_T111 l0 a1).f0.f6)).bind fun t201 => (if t201 = true then (spec_StepOk.j0 k l0 a1 (!(((rd_T111 l0 a1).f1.f0.f0) == ((rd_T111 l0 a1).f0.f1.f0)) || (!(((rd_T111 l0 a1).f1.f0.f1) == ((rd_T111 l0 a1).f0.f1.f1)))) ((rd_T111 l0 a1).f0.f0) ((rd_T111 l0 a1).f0.f1.f0) ((rd_T111 l0 a1).f0.f1.f1) ((rd_T111 l0 a1).f0.f2) ((rd_T111 l0 a1).f0.f3.f0) ((rd_T111 l0 a1).f0.f3.f1) ((rd_T111 l0 a1).f0.f4.f0) ((rd_T111 l0 a1).f0.f4.f1) ((rd_T111 l0 a1).f0.f5) ((rd_T111 l0 a1).f0.f6) ((rd_T111 l0 a1).f1.f0.f0) ((rd_T111 l0 a1).f1.f0.f1) ((rd_T111 l0 a1).f1.f1) ((rd_T111 l0 a1).f2) ((rd_T111 l0 a1).f0.f0) ((rd_T111 l0 a1).f0.f1.f0) ((rd_T111 l0 a1).f0.f1.f1) ((rd_T111 l0 a1).f0.f2) ((rd_T111 l0 a1).f0.f3.f0) ((rd_T111 l0 a1).f0.f3.f1) ((rd_T111 l0 a1).f0.f4.f0) ((rd_T111 l0 a1).f0.f4.f1) ((rd_T111 l0 a1).f0.f5) ((rd_T111 l0 a1).f0.f6)) else (spec_StepOk.j0 k l0 a1 true ((rd_T111 l0 a1).f0.f0) ((rd_T111 l0 a1).f0.f1.f0) ((rd_T111 l0 a1).f0.f1.f1) ((rd_T111 l0 a1).f0.f2) ((rd_T111 l0 a1).f0.f3.f0) ((rd_T111 l0 a1).f0.f3.f1) ((rd_T111 l0 a1).f0.f4.f0) ((rd_T111 l0 a1).f0.f4.f1) ((rd_T111 l0 a1).f0.f5) ((rd_T111 l0 a1).f0.f6) ((rd_T111 l0 a1).f1.f0.f0) ((rd_T111 l0 a1).f1.f0.f1) ((rd_T111 l0 a1).f1.f1) ((rd_T111 l0 a1).f2) ((rd_T111 l0 a1).f0.f0) ((rd_T111 l0 a1).f0.f1.f0) ((rd_T111 l0 a1).f0.f1.f1) ((rd_T111 l0 a1).f0.f2) ((rd_T111 l0 a1).f0.f3.f0) ((rd_T111 l0 a1).f0.f3.f1) ((rd_T111 l0 a1).f0.f4.f0) ((rd_T111 l0 a1).f0.f4.f1) ((rd_T111 l0 a1).f0.f5) ((rd_T111 l0 a1).f0.f6)))) else (none)) else (none)) else (some false))) = some r := h
 clear h
 obtain ⟨t197, A3, H⟩ := bindE_ H
 have HC4 := aa_ H
 clear H
 go_enter Tryz.func82, Tryz.ntmps82
 go_upto_if 14 with (first | (go_at_call 30; (with_reducible refine (spec_l01In.calls a1 0 (wrap64 ((l0.length : Int) - 1)) t197 _ A3.out).mono ?_); rintro e w' ⟨rfl, ⟨nd, rfl⟩⟩; (try first | exact ⟨rfl, _, World.drewN_drewN _ _ _⟩ | exact ⟨rfl, _, Eq.trans (World.drewN_drewN _ _ _) (congrArg (World.drewN _) (Nat.add_assoc _ _ _))⟩)))
 repeat (go_quiet (first | (go_at_call 30; (with_reducible refine (spec_l01In.calls a1 0 (wrap64 ((l0.length : Int) - 1)) t197 _ A3.out).mono ?_); rintro e w' ⟨rfl, ⟨nd, rfl⟩⟩; (try first | exact ⟨rfl, _, World.drewN_drewN _ _ _⟩ | exact ⟨rfl, _, Eq.trans (World.drewN_drewN _ _ _) (congrArg (World.drewN _) (Nat.add_assoc _ _ _))⟩))); go_upto_if 14 with (first | (go_at_call 30; (with_reducible refine (spec_l01In.calls a1 0 (wrap64 ((l0.length : Int) - 1)) t197 _ A3.out).mono ?_); rintro e w' ⟨rfl, ⟨nd, rfl⟩⟩; (try first | exact ⟨rfl, _, World.drewN_drewN _ _ _⟩ | exact ⟨rfl, _, Eq.trans (World.drewN_drewN _ _ _) (congrArg (World.drewN _) (Nat.add_assoc _ _ _))⟩))))
 (try simp only [Act.put, sb_, sz_, ss_])
 have H := HC4.out
 clear HC4
 by_cases c5 : t197 = true
 ·subst c5
  replace H := ite_t_ H
  obtain ⟨c6b0, H⟩ := ifd_ H
  (first | rw [c6b0] | (simp only [i64_w, i32_w]; rw [c6b0]) | skip)
  obtain ⟨c7b0, H⟩ := ifd_ H
  have HC8 := aa_ H
  clear H
  have p198 : 0 ≤ (a1 : Int) := od_
  have q198 : a1 < (l0.length : Int) := od_
  obtain ⟨ad198, A198_13, c198_13, e198, hx198_0, hx198_1, hx198_2, hx198_3, hx198_4, hx198_5, hx198_6, hx198_7, hx198_8, hx198_9, hx198_10, hx198_11, hx198_12, hx198_13, hl198_13, hi198_13⟩ := at_T111 HR0.out a1 p198 q198
  cases e198
  replace hx198_0 := cb_ HB hx198_0
  replace hx198_1 := cb_ HB hx198_1
  replace hx198_2 := cb_ HB hx198_2
  replace hx198_3 := cb_ HB hx198_3
  replace hx198_4 := cb_ HB hx198_4
  replace hx198_5 := cb_ HB hx198_5
  replace hx198_6 := cb_ HB hx198_6
  replace hx198_7 := cb_ HB hx198_7
  replace hx198_8 := cb_ HB hx198_8
  replace hx198_9 := cb_ HB hx198_9
  replace hx198_10 := cb_ HB hx198_10
  replace hx198_11 := cb_ HB hx198_11
  replace hx198_12 := cb_ HB hx198_12
  replace hx198_13 := cb_ HB hx198_13
  have HR198_13 := aa_ hi198_13
  have HC198_13 := aa_ hl198_13
  clear hi198_13 hl198_13
  replace p198 := eq_true p198
  replace q198 := eq_true q198
  go_upto_region 5 with (first | ((with_reducible refine gD_ 5 rfl ?_); (try (refine gate_guard (by rfl) ?_; dsimp only)); refine bx_ (N := 5) (cs := #[.int .i64 0, .int .i64 0, .int .i64 0, .int .i64 0, .int .i64 0, .int .i64 0, .int .i64 0, .int .i64 0, .int .i64 0, .int .i64 0, .int .i64 0, .int .i64 0, .int .i64 0, .slice none 0 0]) (t := 111) ?_; intro gb199 hg w9 hbox hb; have BK199 := aa_ (hbox); have GW199 := gs_ hg; have GE199 := gs_ hg; replace HB := hbs_ hb; clear hb hbox hg; obtain ⟨hcz10, hfz10⟩ := bcf_ BK199) | ((with_reducible refine gD_ 6 rfl ?_); (try (refine gate_guard (by rfl) ?_; dsimp only)); refine bx_ (N := 6) (cs := #[.int .i64 0, .int .i64 0, .int .i64 0, .int .i64 0, .int .i64 0, .int .i64 0, .int .i64 0, .int .i64 0, .int .i64 0, .int .i64 0]) (t := 83) ?_; intro gb200 hg w11 hbox hb; have BK200 := aa_ (hbox); have GW200 := gs_ hg; have GE200 := gs_ hg; replace HB := hbs_ hb; have NB199_200 := nl_ hg BK199; have NB200_199 := nr_ hg BK199; replace BK199 := aa_ (blk_below (g := gb199) (o := .cells #[.int .i64 ((rd_T111 l0 a1).f0.f0), .int .i64 ((rd_T111 l0 a1).f0.f1.f0), .int .i64 ((rd_T111 l0 a1).f0.f1.f1), .int .i64 ((rd_T111 l0 a1).f0.f2), .int .i64 ((rd_T111 l0 a1).f0.f3.f0), .int .i64 ((rd_T111 l0 a1).f0.f3.f1), .int .i64 ((rd_T111 l0 a1).f0.f4.f0), .int .i64 ((rd_T111 l0 a1).f0.f4.f1), .int .i64 ((rd_T111 l0 a1).f0.f5), .int .i64 ((rd_T111 l0 a1).f0.f6), .int .i64 ((rd_T111 l0 a1).f1.f0.f0), .int .i64 ((rd_T111 l0 a1).f1.f0.f1), .int .i64 ((rd_T111 l0 a1).f1.f1), .slice A198_13 ((rd_T111 l0 a1).f2).length c198_13] 111 (0, 0)) (bk_ BK199) hb); clear hb hbox hg; have hnb12 := NB200_199.out; have hnc12 := NB199_200.out; obtain ⟨hcz13, hfz13⟩ := bcf_ BK200))
  repeat (go_quiet (first | ((with_reducible refine gD_ 5 rfl ?_); (try (refine gate_guard (by rfl) ?_; dsimp only)); refine bx_ (N := 5) (cs := #[.int .i64 0, .int .i64 0, .int .i64 0, .int .i64 0, .int .i64 0, .int .i64 0, .int .i64 0, .int .i64 0, .int .i64 0, .int .i64 0, .int .i64 0, .int .i64 0, .int .i64 0, .slice none 0 0]) (t := 111) ?_; intro gb199 hg w9 hbox hb; have BK199 := aa_ (hbox); have GW199 := gs_ hg; have GE199 := gs_ hg; replace HB := hbs_ hb; clear hb hbox hg; obtain ⟨hcz10, hfz10⟩ := bcf_ BK199) | ((with_reducible refine gD_ 6 rfl ?_); (try (refine gate_guard (by rfl) ?_; dsimp only)); refine bx_ (N := 6) (cs := #[.int .i64 0, .int .i64 0, .int .i64 0, .int .i64 0, .int .i64 0, .int .i64 0, .int .i64 0, .int .i64 0, .int .i64 0, .int .i64 0]) (t := 83) ?_; intro gb200 hg w11 hbox hb; have BK200 := aa_ (hbox); have GW200 := gs_ hg; have GE200 := gs_ hg; replace HB := hbs_ hb; have NB199_200 := nl_ hg BK199; have NB200_199 := nr_ hg BK199; replace BK199 := aa_ (blk_below (g := gb199) (o := .cells #[.int .i64 ((rd_T111 l0 a1).f0.f0), .int .i64 ((rd_T111 l0 a1).f0.f1.f0), .int .i64 ((rd_T111 l0 a1).f0.f1.f1), .int .i64 ((rd_T111 l0 a1).f0.f2), .int .i64 ((rd_T111 l0 a1).f0.f3.f0), .int .i64 ((rd_T111 l0 a1).f0.f3.f1), .int .i64 ((rd_T111 l0 a1).f0.f4.f0), .int .i64 ((rd_T111 l0 a1).f0.f4.f1), .int .i64 ((rd_T111 l0 a1).f0.f5), .int .i64 ((rd_T111 l0 a1).f0.f6), .int .i64 ((rd_T111 l0 a1).f1.f0.f0), .int .i64 ((rd_T111 l0 a1).f1.f0.f1), .int .i64 ((rd_T111 l0 a1).f1.f1), .slice A198_13 ((rd_T111 l0 a1).f2).length c198_13] 111 (0, 0)) (bk_ BK199) hb); clear hb hbox hg; have hnb12 := NB200_199.out; have hnc12 := NB199_200.out; obtain ⟨hcz13, hfz13⟩ := bcf_ BK200)); go_upto_region 5 with (first | ((with_reducible refine gD_ 5 rfl ?_); (try (refine gate_guard (by rfl) ?_; dsimp only)); refine bx_ (N := 5) (cs := #[.int .i64 0, .int .i64 0, .int .i64 0, .int .i64 0, .int .i64 0, .int .i64 0, .int .i64 0, .int .i64 0, .int .i64 0, .int .i64 0, .int .i64 0, .int .i64 0, .int .i64 0, .slice none 0 0]) (t := 111) ?_; intro gb199 hg w9 hbox hb; have BK199 := aa_ (hbox); have GW199 := gs_ hg; have GE199 := gs_ hg; replace HB := hbs_ hb; clear hb hbox hg; obtain ⟨hcz10, hfz10⟩ := bcf_ BK199) | ((with_reducible refine gD_ 6 rfl ?_); (try (refine gate_guard (by rfl) ?_; dsimp only)); refine bx_ (N := 6) (cs := #[.int .i64 0, .int .i64 0, .int .i64 0, .int .i64 0, .int .i64 0, .int .i64 0, .int .i64 0, .int .i64 0, .int .i64 0, .int .i64 0]) (t := 83) ?_; intro gb200 hg w11 hbox hb; have BK200 := aa_ (hbox); have GW200 := gs_ hg; have GE200 := gs_ hg; replace HB := hbs_ hb; have NB199_200 := nl_ hg BK199; have NB200_199 := nr_ hg BK199; replace BK199 := aa_ (blk_below (g := gb199) (o := .cells #[.int .i64 ((rd_T111 l0 a1).f0.f0), .int .i64 ((rd_T111 l0 a1).f0.f1.f0), .int .i64 ((rd_T111 l0 a1).f0.f1.f1), .int .i64 ((rd_T111 l0 a1).f0.f2), .int .i64 ((rd_T111 l0 a1).f0.f3.f0), .int .i64 ((rd_T111 l0 a1).f0.f3.f1), .int .i64 ((rd_T111 l0 a1).f0.f4.f0), .int .i64 ((rd_T111 l0 a1).f0.f4.f1), .int .i64 ((rd_T111 l0 a1).f0.f5), .int .i64 ((rd_T111 l0 a1).f0.f6), .int .i64 ((rd_T111 l0 a1).f1.f0.f0), .int .i64 ((rd_T111 l0 a1).f1.f0.f1), .int .i64 ((rd_T111 l0 a1).f1.f1), .slice A198_13 ((rd_T111 l0 a1).f2).length c198_13] 111 (0, 0)) (bk_ BK199) hb); clear hb hbox hg; have hnb12 := NB200_199.out; have hnc12 := NB199_200.out; obtain ⟨hcz13, hfz13⟩ := bcf_ BK200)))
  (try simp only [Act.put, sb_, sz_, ss_])
  go_cut [31] (fun v31 wc => ∃ (kq : Nat) (x31_7 : Bool), v31 = .bool x31_7 ∧ Aside0 (spec_StepOk.j0 kq l0 a1 x31_7 ((rd_T111 l0 a1).f0.f0) ((rd_T111 l0 a1).f0.f1.f0) ((rd_T111 l0 a1).f0.f1.f1) ((rd_T111 l0 a1).f0.f2) ((rd_T111 l0 a1).f0.f3.f0) ((rd_T111 l0 a1).f0.f3.f1) ((rd_T111 l0 a1).f0.f4.f0) ((rd_T111 l0 a1).f0.f4.f1) ((rd_T111 l0 a1).f0.f5) ((rd_T111 l0 a1).f0.f6) ((rd_T111 l0 a1).f1.f0.f0) ((rd_T111 l0 a1).f1.f0.f1) ((rd_T111 l0 a1).f1.f1) ((rd_T111 l0 a1).f2) ((rd_T111 l0 a1).f0.f0) ((rd_T111 l0 a1).f0.f1.f0) ((rd_T111 l0 a1).f0.f1.f1) ((rd_T111 l0 a1).f0.f2) ((rd_T111 l0 a1).f0.f3.f0) ((rd_T111 l0 a1).f0.f3.f1) ((rd_T111 l0 a1).f0.f4.f0) ((rd_T111 l0 a1).f0.f4.f1) ((rd_T111 l0 a1).f0.f5) ((rd_T111 l0 a1).f0.f6) = some r) ∧ Aside0 (kq ≤ k) ∧ Aside0 (wc.heap[gb199]? = some (.cells #[.int .i64 ((rd_T111 l0 a1).f0.f0), .int .i64 ((rd_T111 l0 a1).f0.f1.f0), .int .i64 ((rd_T111 l0 a1).f0.f1.f1), .int .i64 ((rd_T111 l0 a1).f0.f2), .int .i64 ((rd_T111 l0 a1).f0.f3.f0), .int .i64 ((rd_T111 l0 a1).f0.f3.f1), .int .i64 ((rd_T111 l0 a1).f0.f4.f0), .int .i64 ((rd_T111 l0 a1).f0.f4.f1), .int .i64 ((rd_T111 l0 a1).f0.f5), .int .i64 ((rd_T111 l0 a1).f0.f6), .int .i64 ((rd_T111 l0 a1).f1.f0.f0), .int .i64 ((rd_T111 l0 a1).f1.f0.f1), .int .i64 ((rd_T111 l0 a1).f1.f1), (.slice A198_13 ((rd_T111 l0 a1).f2).length c198_13)] 111 (0, 0))) ∧ Aside0 (wc.heap[gb200]? = some (.cells #[.int .i64 ((rd_T111 l0 a1).f0.f0), .int .i64 ((rd_T111 l0 a1).f0.f1.f0), .int .i64 ((rd_T111 l0 a1).f0.f1.f1), .int .i64 ((rd_T111 l0 a1).f0.f2), .int .i64 ((rd_T111 l0 a1).f0.f3.f0), .int .i64 ((rd_T111 l0 a1).f0.f3.f1), .int .i64 ((rd_T111 l0 a1).f0.f4.f0), .int .i64 ((rd_T111 l0 a1).f0.f4.f1), .int .i64 ((rd_T111 l0 a1).f0.f5), .int .i64 ((rd_T111 l0 a1).f0.f6)] 83 (0, 0))) ∧ Aside0 (Below w.heap.size w wc))
  case first =>
   have H := HC8.out
   clear HC8
   obtain ⟨t201, A14, H⟩ := bindE_ H
   by_cases c15 : t201 = true
   ·subst c15
    replace H := ite_t_ H
    have H' := aa_ H
    clear H
    have hnb16 := NB200_199.out
    have hnc16 := NB199_200.out
    have hcz17 := blk_cell BK200.out
    have hfz17 := blk_frozen BK200.out
    go_wp2_with (first | (go_at_call 83; (with_reducible refine (spec_CredOk.calls k ((rd_T111 l0 a1).f0.f0) ((rd_T111 l0 a1).f0.f1.f0) ((rd_T111 l0 a1).f0.f1.f1) ((rd_T111 l0 a1).f0.f2) ((rd_T111 l0 a1).f0.f3.f0) ((rd_T111 l0 a1).f0.f3.f1) ((rd_T111 l0 a1).f0.f4.f0) ((rd_T111 l0 a1).f0.f4.f1) ((rd_T111 l0 a1).f0.f5) ((rd_T111 l0 a1).f0.f6) true _ A14.out).mono ?_); rintro e w18 ⟨rfl, hb⟩; replace BK199 := aa_ (blk_below (g := gb199) (o := .cells #[.int .i64 ((rd_T111 l0 a1).f0.f0), .int .i64 ((rd_T111 l0 a1).f0.f1.f0), .int .i64 ((rd_T111 l0 a1).f0.f1.f1), .int .i64 ((rd_T111 l0 a1).f0.f2), .int .i64 ((rd_T111 l0 a1).f0.f3.f0), .int .i64 ((rd_T111 l0 a1).f0.f3.f1), .int .i64 ((rd_T111 l0 a1).f0.f4.f0), .int .i64 ((rd_T111 l0 a1).f0.f4.f1), .int .i64 ((rd_T111 l0 a1).f0.f5), .int .i64 ((rd_T111 l0 a1).f0.f6), .int .i64 ((rd_T111 l0 a1).f1.f0.f0), .int .i64 ((rd_T111 l0 a1).f1.f0.f1), .int .i64 ((rd_T111 l0 a1).f1.f1), .slice A198_13 ((rd_T111 l0 a1).f2).length c198_13] 111 (0, 0)) (bk_ BK199) hb); replace BK200 := aa_ (blk_below (g := gb200) (o := .cells #[.int .i64 ((rd_T111 l0 a1).f0.f0), .int .i64 ((rd_T111 l0 a1).f0.f1.f0), .int .i64 ((rd_T111 l0 a1).f0.f1.f1), .int .i64 ((rd_T111 l0 a1).f0.f2), .int .i64 ((rd_T111 l0 a1).f0.f3.f0), .int .i64 ((rd_T111 l0 a1).f0.f3.f1), .int .i64 ((rd_T111 l0 a1).f0.f4.f0), .int .i64 ((rd_T111 l0 a1).f0.f4.f1), .int .i64 ((rd_T111 l0 a1).f0.f5), .int .i64 ((rd_T111 l0 a1).f0.f6)] 83 (0, 0)) (bk_ BK200) hb); replace HB := hbs_ hb; clear hb; obtain ⟨hcz19, hfz19⟩ := bcf_ BK199; obtain ⟨hcz20, hfz20⟩ := bcf_ BK200))
    repeat (go_quiet (first | (go_at_call 83; (with_reducible refine (spec_CredOk.calls k ((rd_T111 l0 a1).f0.f0) ((rd_T111 l0 a1).f0.f1.f0) ((rd_T111 l0 a1).f0.f1.f1) ((rd_T111 l0 a1).f0.f2) ((rd_T111 l0 a1).f0.f3.f0) ((rd_T111 l0 a1).f0.f3.f1) ((rd_T111 l0 a1).f0.f4.f0) ((rd_T111 l0 a1).f0.f4.f1) ((rd_T111 l0 a1).f0.f5) ((rd_T111 l0 a1).f0.f6) true _ A14.out).mono ?_); rintro e w18 ⟨rfl, hb⟩; replace BK199 := aa_ (blk_below (g := gb199) (o := .cells #[.int .i64 ((rd_T111 l0 a1).f0.f0), .int .i64 ((rd_T111 l0 a1).f0.f1.f0), .int .i64 ((rd_T111 l0 a1).f0.f1.f1), .int .i64 ((rd_T111 l0 a1).f0.f2), .int .i64 ((rd_T111 l0 a1).f0.f3.f0), .int .i64 ((rd_T111 l0 a1).f0.f3.f1), .int .i64 ((rd_T111 l0 a1).f0.f4.f0), .int .i64 ((rd_T111 l0 a1).f0.f4.f1), .int .i64 ((rd_T111 l0 a1).f0.f5), .int .i64 ((rd_T111 l0 a1).f0.f6), .int .i64 ((rd_T111 l0 a1).f1.f0.f0), .int .i64 ((rd_T111 l0 a1).f1.f0.f1), .int .i64 ((rd_T111 l0 a1).f1.f1), .slice A198_13 ((rd_T111 l0 a1).f2).length c198_13] 111 (0, 0)) (bk_ BK199) hb); replace BK200 := aa_ (blk_below (g := gb200) (o := .cells #[.int .i64 ((rd_T111 l0 a1).f0.f0), .int .i64 ((rd_T111 l0 a1).f0.f1.f0), .int .i64 ((rd_T111 l0 a1).f0.f1.f1), .int .i64 ((rd_T111 l0 a1).f0.f2), .int .i64 ((rd_T111 l0 a1).f0.f3.f0), .int .i64 ((rd_T111 l0 a1).f0.f3.f1), .int .i64 ((rd_T111 l0 a1).f0.f4.f0), .int .i64 ((rd_T111 l0 a1).f0.f4.f1), .int .i64 ((rd_T111 l0 a1).f0.f5), .int .i64 ((rd_T111 l0 a1).f0.f6)] 83 (0, 0)) (bk_ BK200) hb); replace HB := hbs_ hb; clear hb; obtain ⟨hcz19, hfz19⟩ := bcf_ BK199; obtain ⟨hcz20, hfz20⟩ := bcf_ BK200)); try go_wp2_with (first | (go_at_call 83; (with_reducible refine (spec_CredOk.calls k ((rd_T111 l0 a1).f0.f0) ((rd_T111 l0 a1).f0.f1.f0) ((rd_T111 l0 a1).f0.f1.f1) ((rd_T111 l0 a1).f0.f2) ((rd_T111 l0 a1).f0.f3.f0) ((rd_T111 l0 a1).f0.f3.f1) ((rd_T111 l0 a1).f0.f4.f0) ((rd_T111 l0 a1).f0.f4.f1) ((rd_T111 l0 a1).f0.f5) ((rd_T111 l0 a1).f0.f6) true _ A14.out).mono ?_); rintro e w18 ⟨rfl, hb⟩; replace BK199 := aa_ (blk_below (g := gb199) (o := .cells #[.int .i64 ((rd_T111 l0 a1).f0.f0), .int .i64 ((rd_T111 l0 a1).f0.f1.f0), .int .i64 ((rd_T111 l0 a1).f0.f1.f1), .int .i64 ((rd_T111 l0 a1).f0.f2), .int .i64 ((rd_T111 l0 a1).f0.f3.f0), .int .i64 ((rd_T111 l0 a1).f0.f3.f1), .int .i64 ((rd_T111 l0 a1).f0.f4.f0), .int .i64 ((rd_T111 l0 a1).f0.f4.f1), .int .i64 ((rd_T111 l0 a1).f0.f5), .int .i64 ((rd_T111 l0 a1).f0.f6), .int .i64 ((rd_T111 l0 a1).f1.f0.f0), .int .i64 ((rd_T111 l0 a1).f1.f0.f1), .int .i64 ((rd_T111 l0 a1).f1.f1), .slice A198_13 ((rd_T111 l0 a1).f2).length c198_13] 111 (0, 0)) (bk_ BK199) hb); replace BK200 := aa_ (blk_below (g := gb200) (o := .cells #[.int .i64 ((rd_T111 l0 a1).f0.f0), .int .i64 ((rd_T111 l0 a1).f0.f1.f0), .int .i64 ((rd_T111 l0 a1).f0.f1.f1), .int .i64 ((rd_T111 l0 a1).f0.f2), .int .i64 ((rd_T111 l0 a1).f0.f3.f0), .int .i64 ((rd_T111 l0 a1).f0.f3.f1), .int .i64 ((rd_T111 l0 a1).f0.f4.f0), .int .i64 ((rd_T111 l0 a1).f0.f4.f1), .int .i64 ((rd_T111 l0 a1).f0.f5), .int .i64 ((rd_T111 l0 a1).f0.f6)] 83 (0, 0)) (bk_ BK200) hb); replace HB := hbs_ hb; clear hb; obtain ⟨hcz19, hfz19⟩ := bcf_ BK199; obtain ⟨hcz20, hfz20⟩ := bcf_ BK200)))
    go_meet
    case rel => exact ⟨_, ((!(((rd_T111 l0 a1).f1.f0.f0) == ((rd_T111 l0 a1).f0.f1.f0)) || (!(((rd_T111 l0 a1).f1.f0.f1) == ((rd_T111 l0 a1).f0.f1.f1))))), rf_, H', ⟨by first | omega | exact Nat.le_refl _⟩, ⟨bk_ BK199⟩, ⟨bk_ BK200⟩, ⟨bl_⟩⟩
   ·replace c15 := Bool.eq_false_iff.mpr c15
    subst c15
    replace H := ite_f_ H
    have H' := aa_ H
    clear H
    have hnb21 := NB200_199.out
    have hnc21 := NB199_200.out
    have hcz22 := blk_cell BK200.out
    have hfz22 := blk_frozen BK200.out
    go_wp2_with (first | (go_at_call 83; (with_reducible refine (spec_CredOk.calls k ((rd_T111 l0 a1).f0.f0) ((rd_T111 l0 a1).f0.f1.f0) ((rd_T111 l0 a1).f0.f1.f1) ((rd_T111 l0 a1).f0.f2) ((rd_T111 l0 a1).f0.f3.f0) ((rd_T111 l0 a1).f0.f3.f1) ((rd_T111 l0 a1).f0.f4.f0) ((rd_T111 l0 a1).f0.f4.f1) ((rd_T111 l0 a1).f0.f5) ((rd_T111 l0 a1).f0.f6) false _ A14.out).mono ?_); rintro e w23 ⟨rfl, hb⟩; replace BK199 := aa_ (blk_below (g := gb199) (o := .cells #[.int .i64 ((rd_T111 l0 a1).f0.f0), .int .i64 ((rd_T111 l0 a1).f0.f1.f0), .int .i64 ((rd_T111 l0 a1).f0.f1.f1), .int .i64 ((rd_T111 l0 a1).f0.f2), .int .i64 ((rd_T111 l0 a1).f0.f3.f0), .int .i64 ((rd_T111 l0 a1).f0.f3.f1), .int .i64 ((rd_T111 l0 a1).f0.f4.f0), .int .i64 ((rd_T111 l0 a1).f0.f4.f1), .int .i64 ((rd_T111 l0 a1).f0.f5), .int .i64 ((rd_T111 l0 a1).f0.f6), .int .i64 ((rd_T111 l0 a1).f1.f0.f0), .int .i64 ((rd_T111 l0 a1).f1.f0.f1), .int .i64 ((rd_T111 l0 a1).f1.f1), .slice A198_13 ((rd_T111 l0 a1).f2).length c198_13] 111 (0, 0)) (bk_ BK199) hb); replace BK200 := aa_ (blk_below (g := gb200) (o := .cells #[.int .i64 ((rd_T111 l0 a1).f0.f0), .int .i64 ((rd_T111 l0 a1).f0.f1.f0), .int .i64 ((rd_T111 l0 a1).f0.f1.f1), .int .i64 ((rd_T111 l0 a1).f0.f2), .int .i64 ((rd_T111 l0 a1).f0.f3.f0), .int .i64 ((rd_T111 l0 a1).f0.f3.f1), .int .i64 ((rd_T111 l0 a1).f0.f4.f0), .int .i64 ((rd_T111 l0 a1).f0.f4.f1), .int .i64 ((rd_T111 l0 a1).f0.f5), .int .i64 ((rd_T111 l0 a1).f0.f6)] 83 (0, 0)) (bk_ BK200) hb); replace HB := hbs_ hb; clear hb))
    repeat (go_quiet (first | (go_at_call 83; (with_reducible refine (spec_CredOk.calls k ((rd_T111 l0 a1).f0.f0) ((rd_T111 l0 a1).f0.f1.f0) ((rd_T111 l0 a1).f0.f1.f1) ((rd_T111 l0 a1).f0.f2) ((rd_T111 l0 a1).f0.f3.f0) ((rd_T111 l0 a1).f0.f3.f1) ((rd_T111 l0 a1).f0.f4.f0) ((rd_T111 l0 a1).f0.f4.f1) ((rd_T111 l0 a1).f0.f5) ((rd_T111 l0 a1).f0.f6) false _ A14.out).mono ?_); rintro e w23 ⟨rfl, hb⟩; replace BK199 := aa_ (blk_below (g := gb199) (o := .cells #[.int .i64 ((rd_T111 l0 a1).f0.f0), .int .i64 ((rd_T111 l0 a1).f0.f1.f0), .int .i64 ((rd_T111 l0 a1).f0.f1.f1), .int .i64 ((rd_T111 l0 a1).f0.f2), .int .i64 ((rd_T111 l0 a1).f0.f3.f0), .int .i64 ((rd_T111 l0 a1).f0.f3.f1), .int .i64 ((rd_T111 l0 a1).f0.f4.f0), .int .i64 ((rd_T111 l0 a1).f0.f4.f1), .int .i64 ((rd_T111 l0 a1).f0.f5), .int .i64 ((rd_T111 l0 a1).f0.f6), .int .i64 ((rd_T111 l0 a1).f1.f0.f0), .int .i64 ((rd_T111 l0 a1).f1.f0.f1), .int .i64 ((rd_T111 l0 a1).f1.f1), .slice A198_13 ((rd_T111 l0 a1).f2).length c198_13] 111 (0, 0)) (bk_ BK199) hb); replace BK200 := aa_ (blk_below (g := gb200) (o := .cells #[.int .i64 ((rd_T111 l0 a1).f0.f0), .int .i64 ((rd_T111 l0 a1).f0.f1.f0), .int .i64 ((rd_T111 l0 a1).f0.f1.f1), .int .i64 ((rd_T111 l0 a1).f0.f2), .int .i64 ((rd_T111 l0 a1).f0.f3.f0), .int .i64 ((rd_T111 l0 a1).f0.f3.f1), .int .i64 ((rd_T111 l0 a1).f0.f4.f0), .int .i64 ((rd_T111 l0 a1).f0.f4.f1), .int .i64 ((rd_T111 l0 a1).f0.f5), .int .i64 ((rd_T111 l0 a1).f0.f6)] 83 (0, 0)) (bk_ BK200) hb); replace HB := hbs_ hb; clear hb)); try go_wp2_with (first | (go_at_call 83; (with_reducible refine (spec_CredOk.calls k ((rd_T111 l0 a1).f0.f0) ((rd_T111 l0 a1).f0.f1.f0) ((rd_T111 l0 a1).f0.f1.f1) ((rd_T111 l0 a1).f0.f2) ((rd_T111 l0 a1).f0.f3.f0) ((rd_T111 l0 a1).f0.f3.f1) ((rd_T111 l0 a1).f0.f4.f0) ((rd_T111 l0 a1).f0.f4.f1) ((rd_T111 l0 a1).f0.f5) ((rd_T111 l0 a1).f0.f6) false _ A14.out).mono ?_); rintro e w23 ⟨rfl, hb⟩; replace BK199 := aa_ (blk_below (g := gb199) (o := .cells #[.int .i64 ((rd_T111 l0 a1).f0.f0), .int .i64 ((rd_T111 l0 a1).f0.f1.f0), .int .i64 ((rd_T111 l0 a1).f0.f1.f1), .int .i64 ((rd_T111 l0 a1).f0.f2), .int .i64 ((rd_T111 l0 a1).f0.f3.f0), .int .i64 ((rd_T111 l0 a1).f0.f3.f1), .int .i64 ((rd_T111 l0 a1).f0.f4.f0), .int .i64 ((rd_T111 l0 a1).f0.f4.f1), .int .i64 ((rd_T111 l0 a1).f0.f5), .int .i64 ((rd_T111 l0 a1).f0.f6), .int .i64 ((rd_T111 l0 a1).f1.f0.f0), .int .i64 ((rd_T111 l0 a1).f1.f0.f1), .int .i64 ((rd_T111 l0 a1).f1.f1), .slice A198_13 ((rd_T111 l0 a1).f2).length c198_13] 111 (0, 0)) (bk_ BK199) hb); replace BK200 := aa_ (blk_below (g := gb200) (o := .cells #[.int .i64 ((rd_T111 l0 a1).f0.f0), .int .i64 ((rd_T111 l0 a1).f0.f1.f0), .int .i64 ((rd_T111 l0 a1).f0.f1.f1), .int .i64 ((rd_T111 l0 a1).f0.f2), .int .i64 ((rd_T111 l0 a1).f0.f3.f0), .int .i64 ((rd_T111 l0 a1).f0.f3.f1), .int .i64 ((rd_T111 l0 a1).f0.f4.f0), .int .i64 ((rd_T111 l0 a1).f0.f4.f1), .int .i64 ((rd_T111 l0 a1).f0.f5), .int .i64 ((rd_T111 l0 a1).f0.f6)] 83 (0, 0)) (bk_ BK200) hb); replace HB := hbs_ hb; clear hb)))
    go_meet
    case rel => exact ⟨_, (true), rf_, H', ⟨by first | omega | exact Nat.le_refl _⟩, ⟨bk_ BK199⟩, ⟨bk_ BK200⟩, ⟨bl_⟩⟩
  case rest =>
   clear HC8
   try clear p1
   try clear q1
   try clear hx1
   try clear p2
   try clear c6b0
   try clear p6
   try clear c7b0
   try clear p19
   try clear q19
   try clear hx19
   try clear hcz10
   try clear hcz13
   try clear hcz17
   try clear hcz19
   try clear hcz20
   try clear hcz22
   try clear hfz10
   try clear hfz13
   try clear hfz17
   try clear hfz19
   try clear hfz20
   try clear hfz22
   try clear hx198_0
   try clear hx198_1
   try clear hx198_10
   try clear hx198_11
   try clear hx198_12
   try clear hx198_13
   try clear hx198_2
   try clear hx198_3
   try clear hx198_4
   try clear hx198_5
   try clear hx198_6
   try clear hx198_7
   try clear hx198_8
   try clear hx198_9
   try clear p198
   try clear q198
   obtain ⟨kq, x31_7, rfl, HA, HJ7, BK199, BK200, HB⟩ := hcut
   cases kq with
   | zero => exact absurd HA.out (by simp [spec_StepOk.j0])
   | succ kj7 =>
    have H := HA.out
    clear HA
    simp only [spec_StepOk.j0] at H
    by_cases c24 : x31_7 = true
    ·subst c24
     replace H := ite_t_ H
     obtain rfl := Option.some.inj H
     go_wp2
     repeat (go_quiet (fail); try go_wp2)
     go_ret
     exact ⟨eq_, bl_⟩
    ·replace c24 := Bool.eq_false_iff.mpr c24
     subst c24
     replace H := ite_f_ H
     have H' := aa_ H
     clear H
     go_wp2
     repeat (go_quiet (fail); try go_wp2)
     go_loopg [7] kj7 (fun kq v7 w' => ∃ (x7_2 : Int), v7 = .int .i64 x7_2 ∧ Aside0 (spec_StepOk.l0 kq l0 a1 x7_2 ((rd_T111 l0 a1).f0.f0) ((rd_T111 l0 a1).f0.f1.f0) ((rd_T111 l0 a1).f0.f1.f1) ((rd_T111 l0 a1).f0.f2) ((rd_T111 l0 a1).f0.f3.f0) ((rd_T111 l0 a1).f0.f3.f1) ((rd_T111 l0 a1).f0.f4.f0) ((rd_T111 l0 a1).f0.f4.f1) ((rd_T111 l0 a1).f0.f5) ((rd_T111 l0 a1).f0.f6) ((rd_T111 l0 a1).f1.f0.f0) ((rd_T111 l0 a1).f1.f0.f1) ((rd_T111 l0 a1).f1.f1) ((rd_T111 l0 a1).f2) ((rd_T111 l0 a1).f0.f0) ((rd_T111 l0 a1).f0.f1.f0) ((rd_T111 l0 a1).f0.f1.f1) ((rd_T111 l0 a1).f0.f2) ((rd_T111 l0 a1).f0.f3.f0) ((rd_T111 l0 a1).f0.f3.f1) ((rd_T111 l0 a1).f0.f4.f0) ((rd_T111 l0 a1).f0.f4.f1) ((rd_T111 l0 a1).f0.f5) ((rd_T111 l0 a1).f0.f6) = some r) ∧ Aside0 (kq ≤ kj7) ∧ Aside0 (w'.heap[gb199]? = some (.cells #[.int .i64 ((rd_T111 l0 a1).f0.f0), .int .i64 ((rd_T111 l0 a1).f0.f1.f0), .int .i64 ((rd_T111 l0 a1).f0.f1.f1), .int .i64 ((rd_T111 l0 a1).f0.f2), .int .i64 ((rd_T111 l0 a1).f0.f3.f0), .int .i64 ((rd_T111 l0 a1).f0.f3.f1), .int .i64 ((rd_T111 l0 a1).f0.f4.f0), .int .i64 ((rd_T111 l0 a1).f0.f4.f1), .int .i64 ((rd_T111 l0 a1).f0.f5), .int .i64 ((rd_T111 l0 a1).f0.f6), .int .i64 ((rd_T111 l0 a1).f1.f0.f0), .int .i64 ((rd_T111 l0 a1).f1.f0.f1), .int .i64 ((rd_T111 l0 a1).f1.f1), (.slice A198_13 ((rd_T111 l0 a1).f2).length c198_13)] 111 (0, 0))) ∧ Aside0 (w'.heap[gb200]? = some (.cells #[.int .i64 ((rd_T111 l0 a1).f0.f0), .int .i64 ((rd_T111 l0 a1).f0.f1.f0), .int .i64 ((rd_T111 l0 a1).f0.f1.f1), .int .i64 ((rd_T111 l0 a1).f0.f2), .int .i64 ((rd_T111 l0 a1).f0.f3.f0), .int .i64 ((rd_T111 l0 a1).f0.f3.f1), .int .i64 ((rd_T111 l0 a1).f0.f4.f0), .int .i64 ((rd_T111 l0 a1).f0.f4.f1), .int .i64 ((rd_T111 l0 a1).f0.f5), .int .i64 ((rd_T111 l0 a1).f0.f6)] 83 (0, 0))) ∧ Aside0 (Below w.heap.size w w'))
     case atStart => exact ⟨(0), rf_, H', ⟨Nat.le_refl _⟩, ⟨bk_ BK199⟩, ⟨bk_ BK200⟩, ⟨bl_⟩⟩
     case round =>
      clear H'
      try clear p1
      try clear q1
      try clear hx1
      try clear p2
      try clear c6b0
      try clear p6
      try clear c7b0
      try clear p19
      try clear q19
      try clear hx19
      try clear hcz10
      try clear hcz13
      try clear hcz17
      try clear hcz19
      try clear hcz20
      try clear hcz22
      try clear hfz10
      try clear hfz13
      try clear hfz17
      try clear hfz19
      try clear hfz20
      try clear hfz22
      try clear hx198_0
      try clear hx198_1
      try clear hx198_10
      try clear hx198_11
      try clear hx198_12
      try clear hx198_13
      try clear hx198_2
      try clear hx198_3
      try clear hx198_4
      try clear hx198_5
      try clear hx198_6
      try clear hx198_7
      try clear hx198_8
      try clear hx198_9
      try clear p1
      try clear p19
      try clear p198
      try clear p2
      try clear p6
      try clear q1
      try clear q19
      try clear q198
      obtain ⟨x7_2, rfl, HA, HK2, BK199, BK200, HB⟩ := hrel
      cases gk with
      | zero => exact absurd HA.out (by simp [spec_StepOk.l0])
      | succ k2 =>
       have H := HA.out
       clear HA
       simp only [spec_StepOk.l0] at H
       by_cases c25 : x7_2 < (((rd_T111 l0 a1).f2).length : Int)
       ·rw [if_pos c25] at H
        have c25b0 : decide (x7_2 < (((rd_T111 l0 a1).f2).length : Int)) = true := decide_eq_true c25
        clear c25
        obtain ⟨c26b0, H⟩ := ifd_ H
        obtain ⟨t203, A27, H⟩ := bindE_ H
        have HC28 := aa_ H
        clear H
        have hnb29 := NB199_200.out
        have hnc29 := NB200_199.out
        have hcz30 := blk_cell BK199.out
        have hfz30 := blk_frozen BK199.out
        have p202 : 0 ≤ (x7_2 : Int) := od_
        have q202 : x7_2 < (((rd_T111 l0 a1).f2).length : Int) := od_
        obtain ⟨ad202, e202, hx202_0⟩ := Kd.at_int (Kd.C_below HR198_13.out HB.out) x7_2 p202 q202
        cases e202
        replace p202 := eq_true p202
        replace q202 := eq_true q202
        go_upto_if 47 with (first | (go_at_call 30; (with_reducible refine (spec_l01In.calls (rd ((rd_T111 l0 a1).f2) x7_2) 0 (wrap64 (a1 - 1)) t203 _ A27.out).mono ?_); rintro e w' ⟨rfl, ⟨nd, rfl⟩⟩; (try first | exact ⟨rfl, _, World.drewN_drewN _ _ _⟩ | exact ⟨rfl, _, Eq.trans (World.drewN_drewN _ _ _) (congrArg (World.drewN _) (Nat.add_assoc _ _ _))⟩)))
        repeat (go_quiet (first | (go_at_call 30; (with_reducible refine (spec_l01In.calls (rd ((rd_T111 l0 a1).f2) x7_2) 0 (wrap64 (a1 - 1)) t203 _ A27.out).mono ?_); rintro e w' ⟨rfl, ⟨nd, rfl⟩⟩; (try first | exact ⟨rfl, _, World.drewN_drewN _ _ _⟩ | exact ⟨rfl, _, Eq.trans (World.drewN_drewN _ _ _) (congrArg (World.drewN _) (Nat.add_assoc _ _ _))⟩))); go_upto_if 47 with (first | (go_at_call 30; (with_reducible refine (spec_l01In.calls (rd ((rd_T111 l0 a1).f2) x7_2) 0 (wrap64 (a1 - 1)) t203 _ A27.out).mono ?_); rintro e w' ⟨rfl, ⟨nd, rfl⟩⟩; (try first | exact ⟨rfl, _, World.drewN_drewN _ _ _⟩ | exact ⟨rfl, _, Eq.trans (World.drewN_drewN _ _ _) (congrArg (World.drewN _) (Nat.add_assoc _ _ _))⟩))))
        (try simp only [Act.put, sb_, sz_, ss_])
        have H := HC28.out
        clear HC28
        by_cases c31 : t203 = true
        ·subst c31
         replace H := ite_t_ H
         have H' := aa_ H
         clear H
         go_wp2
         repeat (go_quiet (fail); try go_wp2)
         go_roundg k2
         case measure => have := HJ7.out; have := HK2.out; omega
         case rel => exact ⟨(wrap64 (x7_2 + 1)), rf_, H', ⟨by have := HJ7.out; have := HK2.out; omega⟩, ⟨bk_ BK199⟩, ⟨bk_ BK200⟩, ⟨bl_⟩⟩
        ·replace c31 := Bool.eq_false_iff.mpr c31
         subst c31
         replace H := ite_f_ H
         obtain rfl := Option.some.inj H
         go_wp2
         repeat (go_quiet (fail); try go_wp2)
         go_ret
         exact ⟨eq_, bl_⟩
       ·rw [if_neg c25] at H
        have c25b0 : decide (x7_2 < (((rd_T111 l0 a1).f2).length : Int)) = false := decide_eq_false c25
        clear c25
        by_cases c32 : ((rd_T111 l0 a1).f0.f0) = 1
        ·rw [if_pos c32] at H
         have c32b0 : (((rd_T111 l0 a1).f0.f0) == 1) = true := beq_iff_eq.mpr c32
         have c32b1 : (((rd_T111 l0 a1).f0.f0) != 1) = false := bne_eq_false_iff_eq.mpr c32
         clear c32
         by_cases c33 : ((rd_T111 l0 a1).f1.f1) = ((rd_T111 l0 a1).f0.f2)
         ·rw [if_pos c33] at H
          have c33b0 : (((rd_T111 l0 a1).f1.f1) == ((rd_T111 l0 a1).f0.f2)) = true := beq_iff_eq.mpr c33
          have c33b1 : (((rd_T111 l0 a1).f1.f1) != ((rd_T111 l0 a1).f0.f2)) = false := bne_eq_false_iff_eq.mpr c33
          clear c33
          obtain rfl := Option.some.inj H
          have hnb34 := NB199_200.out
          have hnc34 := NB200_199.out
          have hcz35 := blk_cell BK199.out
          have hfz35 := blk_frozen BK199.out
          have hcz36 := blk_cell BK200.out
          have hfz36 := blk_frozen BK200.out
          go_wp2
          repeat (go_quiet (fail); try go_wp2)
          go_ret
          exact ⟨eq_, bl_⟩
         ·rw [if_neg c33] at H
          have c33b0 : (((rd_T111 l0 a1).f1.f1) == ((rd_T111 l0 a1).f0.f2)) = false := beq_eq_false_iff_ne.mpr c33
          have c33b1 : (((rd_T111 l0 a1).f1.f1) != ((rd_T111 l0 a1).f0.f2)) = true := bne_iff_ne.mpr c33
          obtain rfl := Option.some.inj H
          have hnb37 := NB199_200.out
          have hnc37 := NB200_199.out
          have hcz38 := blk_cell BK199.out
          have hfz38 := blk_frozen BK199.out
          have hcz39 := blk_cell BK200.out
          have hfz39 := blk_frozen BK200.out
          go_wp2
          repeat (go_quiet (fail); try go_wp2)
          go_ret
          exact ⟨eq_, bl_⟩
        ·rw [if_neg c32] at H
         have c32b0 : (((rd_T111 l0 a1).f0.f0) == 1) = false := beq_eq_false_iff_ne.mpr c32
         have c32b1 : (((rd_T111 l0 a1).f0.f0) != 1) = true := bne_iff_ne.mpr c32
         by_cases c40 : ((rd_T111 l0 a1).f0.f0) = 2
         ·rw [if_pos c40] at H
          have c40b0 : (((rd_T111 l0 a1).f0.f0) == 2) = true := beq_iff_eq.mpr c40
          have c40b1 : (((rd_T111 l0 a1).f0.f0) != 2) = false := bne_eq_false_iff_eq.mpr c40
          clear c40
          by_cases c41 : (((rd_T111 l0 a1).f2).length : Int) = 1
          ·rw [if_pos c41] at H
           have c41b0 : ((((rd_T111 l0 a1).f2).length : Int) == 1) = true := beq_iff_eq.mpr c41
           have c41b1 : ((((rd_T111 l0 a1).f2).length : Int) != 1) = false := bne_eq_false_iff_eq.mpr c41
           clear c41
           obtain ⟨t204, A42, H⟩ := bindE_ H
           obtain rfl := Option.some.inj H
           have hnb43 := NB199_200.out
           have hnc43 := NB200_199.out
           have hcz44 := blk_cell BK199.out
           have hfz44 := blk_frozen BK199.out
           have hcz45 := blk_cell BK200.out
           have hfz45 := blk_frozen BK200.out
           go_wp2_with (first | (go_at_call 93; (with_reducible refine (spec_l07Shown.calls k2 _ _ l0 a1 ((rd_T111 l0 a1).f0.f3.f0) ((rd_T111 l0 a1).f0.f3.f1) ((rd_T111 l0 a1).f1.f1) t204 _ ?side1 ?side2 A42.out).mono ?_); (case side1 => repeat (first | exact (Kd.C_below HR0.out HB.out) | (with_reducible refine Kd.C_alloc ?_ _) | (with_reducible refine Kd.C_drewN ?_ _) | (with_reducible refine Kd.C_drew ?_))); (case side2 => exact HC0.out); rintro e w46 ⟨rfl, hb⟩; replace BK199 := bkb_ BK199 hb; replace BK200 := bkb_ BK200 hb; replace HB := hbs_ hb; clear hb))
           repeat (go_quiet (first | (go_at_call 93; (with_reducible refine (spec_l07Shown.calls k2 _ _ l0 a1 ((rd_T111 l0 a1).f0.f3.f0) ((rd_T111 l0 a1).f0.f3.f1) ((rd_T111 l0 a1).f1.f1) t204 _ ?side1 ?side2 A42.out).mono ?_); (case side1 => repeat (first | exact (Kd.C_below HR0.out HB.out) | (with_reducible refine Kd.C_alloc ?_ _) | (with_reducible refine Kd.C_drewN ?_ _) | (with_reducible refine Kd.C_drew ?_))); (case side2 => exact HC0.out); rintro e w46 ⟨rfl, hb⟩; replace BK199 := bkb_ BK199 hb; replace BK200 := bkb_ BK200 hb; replace HB := hbs_ hb; clear hb)); try go_wp2_with (first | (go_at_call 93; (with_reducible refine (spec_l07Shown.calls k2 _ _ l0 a1 ((rd_T111 l0 a1).f0.f3.f0) ((rd_T111 l0 a1).f0.f3.f1) ((rd_T111 l0 a1).f1.f1) t204 _ ?side1 ?side2 A42.out).mono ?_); (case side1 => repeat (first | exact (Kd.C_below HR0.out HB.out) | (with_reducible refine Kd.C_alloc ?_ _) | (with_reducible refine Kd.C_drewN ?_ _) | (with_reducible refine Kd.C_drew ?_))); (case side2 => exact HC0.out); rintro e w46 ⟨rfl, hb⟩; replace BK199 := bkb_ BK199 hb; replace BK200 := bkb_ BK200 hb; replace HB := hbs_ hb; clear hb)))
           go_ret
           exact ⟨eq_, bl_⟩
          ·rw [if_neg c41] at H
           have c41b0 : ((((rd_T111 l0 a1).f2).length : Int) == 1) = false := beq_eq_false_iff_ne.mpr c41
           have c41b1 : ((((rd_T111 l0 a1).f2).length : Int) != 1) = true := bne_iff_ne.mpr c41
           obtain rfl := Option.some.inj H
           have hnb47 := NB199_200.out
           have hnc47 := NB200_199.out
           have hcz48 := blk_cell BK199.out
           have hfz48 := blk_frozen BK199.out
           have hcz49 := blk_cell BK200.out
           have hfz49 := blk_frozen BK200.out
           go_wp2
           repeat (go_quiet (fail); try go_wp2)
           go_ret
           exact ⟨eq_, bl_⟩
         ·rw [if_neg c40] at H
          have c40b0 : (((rd_T111 l0 a1).f0.f0) == 2) = false := beq_eq_false_iff_ne.mpr c40
          have c40b1 : (((rd_T111 l0 a1).f0.f0) != 2) = true := bne_iff_ne.mpr c40
          by_cases c50 : ((rd_T111 l0 a1).f0.f0) = 4
          ·rw [if_pos c50] at H
           have c50b0 : (((rd_T111 l0 a1).f0.f0) == 4) = true := beq_iff_eq.mpr c50
           have c50b1 : (((rd_T111 l0 a1).f0.f0) != 4) = false := bne_eq_false_iff_eq.mpr c50
           clear c50
           by_cases c51 : (((rd_T111 l0 a1).f2).length : Int) = 2
           ·rw [if_pos c51] at H
            have c51b0 : ((((rd_T111 l0 a1).f2).length : Int) == 2) = true := beq_iff_eq.mpr c51
            have c51b1 : ((((rd_T111 l0 a1).f2).length : Int) != 2) = false := bne_eq_false_iff_eq.mpr c51
            clear c51
            obtain ⟨c52, H⟩ := ifn_ H
            have c52b0 : decide (0 < (((rd_T111 l0 a1).f2).length : Int)) = true := decide_eq_true c52
            have c52b1 : decide (0 < ((rd_T111 l0 a1).f2).length) = true := decide_eq_true (by omega)
            clear c52
            obtain ⟨c53b0, H⟩ := ifd_ H
            obtain ⟨c54b0, H⟩ := ifd_ H
            by_cases c55 : ((((rd_T111 l0 (rd ((rd_T111 l0 a1).f2) 0)).f1.f0.f0) == ((rd_T111 l0 a1).f0.f3.f0) && (((rd_T111 l0 (rd ((rd_T111 l0 a1).f2) 0)).f1.f0.f1) == ((rd_T111 l0 a1).f0.f3.f1))) && (((rd_T111 l0 (rd ((rd_T111 l0 a1).f2) 0)).f1.f1) == ((rd_T111 l0 a1).f1.f1))) = true
            ·rw [if_pos c55] at H
             have c55b0 : ((((rd_T111 l0 (rd ((rd_T111 l0 a1).f2) 0)).f1.f0.f0) == ((rd_T111 l0 a1).f0.f3.f0) && (((rd_T111 l0 (rd ((rd_T111 l0 a1).f2) 0)).f1.f0.f1) == ((rd_T111 l0 a1).f0.f3.f1))) && (((rd_T111 l0 (rd ((rd_T111 l0 a1).f2) 0)).f1.f1) == ((rd_T111 l0 a1).f1.f1))) = true := c55
             clear c55
             obtain ⟨c56, H⟩ := ifn_ H
             have c56b0 : decide (1 < (((rd_T111 l0 a1).f2).length : Int)) = true := decide_eq_true c56
             have c56b1 : decide (1 < ((rd_T111 l0 a1).f2).length) = true := decide_eq_true (by omega)
             clear c56
             obtain ⟨c57b0, H⟩ := ifd_ H
             obtain ⟨c58b0, H⟩ := ifd_ H
             obtain rfl := Option.some.inj H
             have hnb59 := NB199_200.out
             have hnc59 := NB200_199.out
             have hcz60 := blk_cell BK199.out
             have hfz60 := blk_frozen BK199.out
             have hcz61 := blk_cell BK200.out
             have hfz61 := blk_frozen BK200.out
             have p205 : 0 ≤ (0 : Int) := (by omega)
             have q205 : 0 < (((rd_T111 l0 a1).f2).length : Int) := od_
             obtain ⟨ad205, e205, hx205_0⟩ := Kd.at_int HR198_13.out 0 p205 q205
             cases e205
             have qi205 : (0 < ((rd_T111 l0 a1).f2).length) = True := eq_true (by omega)
             (try rw [show ((0 : Int)).toNat = 0 from rfl] at hx205_0)
             (try rw [Addr.add_zero'] at hx205_0)
             replace hx205_0 := cb_ HB hx205_0
             replace p205 := eq_true p205
             replace q205 := eq_true q205
             have p206 : 0 ≤ ((rd ((rd_T111 l0 a1).f2) 0) : Int) := od_
             have q206 : (rd ((rd_T111 l0 a1).f2) 0) < (l0.length : Int) := od_
             obtain ⟨ad206, A206_13, c206_13, e206, hx206_0, hx206_1, hx206_2, hx206_3, hx206_4, hx206_5, hx206_6, hx206_7, hx206_8, hx206_9, hx206_10, hx206_11, hx206_12, hx206_13, hl206_13, hi206_13⟩ := at_T111 HR0.out (rd ((rd_T111 l0 a1).f2) 0) p206 q206
             obtain rfl : ad198 = ad206 := (by injection e206)
             replace hx206_0 := cb_ HB hx206_0
             replace hx206_1 := cb_ HB hx206_1
             replace hx206_2 := cb_ HB hx206_2
             replace hx206_3 := cb_ HB hx206_3
             replace hx206_4 := cb_ HB hx206_4
             replace hx206_5 := cb_ HB hx206_5
             replace hx206_6 := cb_ HB hx206_6
             replace hx206_7 := cb_ HB hx206_7
             replace hx206_8 := cb_ HB hx206_8
             replace hx206_9 := cb_ HB hx206_9
             replace hx206_10 := cb_ HB hx206_10
             replace hx206_11 := cb_ HB hx206_11
             replace hx206_12 := cb_ HB hx206_12
             replace hx206_13 := cb_ HB hx206_13
             have HR206_13 := aa_ hi206_13
             have HC206_13 := aa_ hl206_13
             clear hi206_13 hl206_13
             replace p206 := eq_true p206
             replace q206 := eq_true q206
             have p207 : 0 ≤ (1 : Int) := (by omega)
             have q207 : 1 < (((rd_T111 l0 a1).f2).length : Int) := od_
             obtain ⟨ad207, e207, hx207_0⟩ := Kd.at_int HR198_13.out 1 p207 q207
             obtain rfl : ad205 = ad207 := (by injection e207)
             (try simp only [show (1 : Int).toNat = 1 from rfl, Nat.reduceMul, Nat.reduceEqDiff, Go.Addr.add, ↓reduceIte] at hx207_0)
             have qi207 : (1 < ((rd_T111 l0 a1).f2).length) = True := eq_true (by omega)
             (try rw [show ((1 : Int)).toNat = 1 from rfl] at hx207_0)
             replace hx207_0 := cb_ HB hx207_0
             replace p207 := eq_true p207
             replace q207 := eq_true q207
             have p208 : 0 ≤ ((rd ((rd_T111 l0 a1).f2) 1) : Int) := od_
             have q208 : (rd ((rd_T111 l0 a1).f2) 1) < (l0.length : Int) := od_
             obtain ⟨ad208, A208_13, c208_13, e208, hx208_0, hx208_1, hx208_2, hx208_3, hx208_4, hx208_5, hx208_6, hx208_7, hx208_8, hx208_9, hx208_10, hx208_11, hx208_12, hx208_13, hl208_13, hi208_13⟩ := at_T111 HR0.out (rd ((rd_T111 l0 a1).f2) 1) p208 q208
             obtain rfl : ad198 = ad208 := (by injection e208)
             replace hx208_0 := cb_ HB hx208_0
             replace hx208_1 := cb_ HB hx208_1
             replace hx208_2 := cb_ HB hx208_2
             replace hx208_3 := cb_ HB hx208_3
             replace hx208_4 := cb_ HB hx208_4
             replace hx208_5 := cb_ HB hx208_5
             replace hx208_6 := cb_ HB hx208_6
             replace hx208_7 := cb_ HB hx208_7
             replace hx208_8 := cb_ HB hx208_8
             replace hx208_9 := cb_ HB hx208_9
             replace hx208_10 := cb_ HB hx208_10
             replace hx208_11 := cb_ HB hx208_11
             replace hx208_12 := cb_ HB hx208_12
             replace hx208_13 := cb_ HB hx208_13
             have HR208_13 := aa_ hi208_13
             have HC208_13 := aa_ hl208_13
             clear hi208_13 hl208_13
             replace p208 := eq_true p208
             replace q208 := eq_true q208
             go_wp2
             repeat (go_quiet (fail); try go_wp2)
             go_ret
             exact ⟨eq_, bl_⟩
            ·rw [if_neg c55] at H
             have c55b0 : ((((rd_T111 l0 (rd ((rd_T111 l0 a1).f2) 0)).f1.f0.f0) == ((rd_T111 l0 a1).f0.f3.f0) && (((rd_T111 l0 (rd ((rd_T111 l0 a1).f2) 0)).f1.f0.f1) == ((rd_T111 l0 a1).f0.f3.f1))) && (((rd_T111 l0 (rd ((rd_T111 l0 a1).f2) 0)).f1.f1) == ((rd_T111 l0 a1).f1.f1))) = false := by simpa using c55
             clear c55
             obtain rfl := Option.some.inj H
             have hnb62 := NB199_200.out
             have hnc62 := NB200_199.out
             have hcz63 := blk_cell BK199.out
             have hfz63 := blk_frozen BK199.out
             have hcz64 := blk_cell BK200.out
             have hfz64 := blk_frozen BK200.out
             have p205 : 0 ≤ (0 : Int) := (by omega)
             have q205 : 0 < (((rd_T111 l0 a1).f2).length : Int) := od_
             obtain ⟨ad205, e205, hx205_0⟩ := Kd.at_int HR198_13.out 0 p205 q205
             cases e205
             have qi205 : (0 < ((rd_T111 l0 a1).f2).length) = True := eq_true (by omega)
             (try rw [show ((0 : Int)).toNat = 0 from rfl] at hx205_0)
             (try rw [Addr.add_zero'] at hx205_0)
             replace hx205_0 := cb_ HB hx205_0
             replace p205 := eq_true p205
             replace q205 := eq_true q205
             have p206 : 0 ≤ ((rd ((rd_T111 l0 a1).f2) 0) : Int) := od_
             have q206 : (rd ((rd_T111 l0 a1).f2) 0) < (l0.length : Int) := od_
             obtain ⟨ad206, A206_13, c206_13, e206, hx206_0, hx206_1, hx206_2, hx206_3, hx206_4, hx206_5, hx206_6, hx206_7, hx206_8, hx206_9, hx206_10, hx206_11, hx206_12, hx206_13, hl206_13, hi206_13⟩ := at_T111 HR0.out (rd ((rd_T111 l0 a1).f2) 0) p206 q206
             obtain rfl : ad198 = ad206 := (by injection e206)
             replace hx206_0 := cb_ HB hx206_0
             replace hx206_1 := cb_ HB hx206_1
             replace hx206_2 := cb_ HB hx206_2
             replace hx206_3 := cb_ HB hx206_3
             replace hx206_4 := cb_ HB hx206_4
             replace hx206_5 := cb_ HB hx206_5
             replace hx206_6 := cb_ HB hx206_6
             replace hx206_7 := cb_ HB hx206_7
             replace hx206_8 := cb_ HB hx206_8
             replace hx206_9 := cb_ HB hx206_9
             replace hx206_10 := cb_ HB hx206_10
             replace hx206_11 := cb_ HB hx206_11
             replace hx206_12 := cb_ HB hx206_12
             replace hx206_13 := cb_ HB hx206_13
             have HR206_13 := aa_ hi206_13
             have HC206_13 := aa_ hl206_13
             clear hi206_13 hl206_13
             replace p206 := eq_true p206
             replace q206 := eq_true q206
             go_wp2
             repeat (go_quiet (fail); try go_wp2)
             go_ret
             exact ⟨eq_, bl_⟩
           ·rw [if_neg c51] at H
            have c51b0 : ((((rd_T111 l0 a1).f2).length : Int) == 2) = false := beq_eq_false_iff_ne.mpr c51
            have c51b1 : ((((rd_T111 l0 a1).f2).length : Int) != 2) = true := bne_iff_ne.mpr c51
            obtain rfl := Option.some.inj H
            have hnb65 := NB199_200.out
            have hnc65 := NB200_199.out
            have hcz66 := blk_cell BK199.out
            have hfz66 := blk_frozen BK199.out
            have hcz67 := blk_cell BK200.out
            have hfz67 := blk_frozen BK200.out
            go_wp2
            repeat (go_quiet (fail); try go_wp2)
            go_ret
            exact ⟨eq_, bl_⟩
          ·rw [if_neg c50] at H
           have c50b0 : (((rd_T111 l0 a1).f0.f0) == 4) = false := beq_eq_false_iff_ne.mpr c50
           have c50b1 : (((rd_T111 l0 a1).f0.f0) != 4) = true := bne_iff_ne.mpr c50
           by_cases c68 : (((rd_T111 l0 a1).f2).length : Int) = 2
           ·rw [if_pos c68] at H
            have c68b0 : ((((rd_T111 l0 a1).f2).length : Int) == 2) = true := beq_iff_eq.mpr c68
            have c68b1 : ((((rd_T111 l0 a1).f2).length : Int) != 2) = false := bne_eq_false_iff_eq.mpr c68
            clear c68
            obtain ⟨c69, H⟩ := ifn_ H
            have c69b0 : decide (0 < (((rd_T111 l0 a1).f2).length : Int)) = true := decide_eq_true c69
            have c69b1 : decide (0 < ((rd_T111 l0 a1).f2).length) = true := decide_eq_true (by omega)
            clear c69
            obtain ⟨c70b0, H⟩ := ifd_ H
            obtain ⟨c71b0, H⟩ := ifd_ H
            have HC72 := aa_ H
            clear H
            have hnb73 := NB199_200.out
            have hnc73 := NB200_199.out
            have hcz74 := blk_cell BK199.out
            have hfz74 := blk_frozen BK199.out
            have hcz75 := blk_cell BK200.out
            have hfz75 := blk_frozen BK200.out
            have p209 : 0 ≤ (0 : Int) := (by omega)
            have q209 : 0 < (((rd_T111 l0 a1).f2).length : Int) := od_
            obtain ⟨ad209, e209, hx209_0⟩ := Kd.at_int HR198_13.out 0 p209 q209
            cases e209
            have qi209 : (0 < ((rd_T111 l0 a1).f2).length) = True := eq_true (by omega)
            (try rw [show ((0 : Int)).toNat = 0 from rfl] at hx209_0)
            (try rw [Addr.add_zero'] at hx209_0)
            replace hx209_0 := cb_ HB hx209_0
            replace p209 := eq_true p209
            replace q209 := eq_true q209
            have p210 : 0 ≤ ((rd ((rd_T111 l0 a1).f2) 0) : Int) := od_
            have q210 : (rd ((rd_T111 l0 a1).f2) 0) < (l0.length : Int) := od_
            obtain ⟨ad210, A210_13, c210_13, e210, hx210_0, hx210_1, hx210_2, hx210_3, hx210_4, hx210_5, hx210_6, hx210_7, hx210_8, hx210_9, hx210_10, hx210_11, hx210_12, hx210_13, hl210_13, hi210_13⟩ := at_T111 HR0.out (rd ((rd_T111 l0 a1).f2) 0) p210 q210
            obtain rfl : ad198 = ad210 := (by injection e210)
            replace hx210_0 := cb_ HB hx210_0
            replace hx210_1 := cb_ HB hx210_1
            replace hx210_2 := cb_ HB hx210_2
            replace hx210_3 := cb_ HB hx210_3
            replace hx210_4 := cb_ HB hx210_4
            replace hx210_5 := cb_ HB hx210_5
            replace hx210_6 := cb_ HB hx210_6
            replace hx210_7 := cb_ HB hx210_7
            replace hx210_8 := cb_ HB hx210_8
            replace hx210_9 := cb_ HB hx210_9
            replace hx210_10 := cb_ HB hx210_10
            replace hx210_11 := cb_ HB hx210_11
            replace hx210_12 := cb_ HB hx210_12
            replace hx210_13 := cb_ HB hx210_13
            have HR210_13 := aa_ hi210_13
            have HC210_13 := aa_ hl210_13
            clear hi210_13 hl210_13
            replace p210 := eq_true p210
            replace q210 := eq_true q210
            go_upto_if 138 with (fail)
            repeat (go_quiet (fail); go_upto_if 138 with (fail))
            have H := HC72.out
            clear HC72
            by_cases c76 : (!(((rd_T111 l0 (rd ((rd_T111 l0 a1).f2) 0)).f1.f0.f0) == ((rd_T111 l0 a1).f0.f3.f0)) || (!(((rd_T111 l0 (rd ((rd_T111 l0 a1).f2) 0)).f1.f0.f1) == ((rd_T111 l0 a1).f0.f3.f1)))) = true
            ·rw [if_pos c76] at H
             have c76b0 : (!(((rd_T111 l0 (rd ((rd_T111 l0 a1).f2) 0)).f1.f0.f0) == ((rd_T111 l0 a1).f0.f3.f0)) || (!(((rd_T111 l0 (rd ((rd_T111 l0 a1).f2) 0)).f1.f0.f1) == ((rd_T111 l0 a1).f0.f3.f1)))) = true := c76
             clear c76
             (first | rw [c76b0] | (simp only [i64_w, i32_w]; rw [c76b0]) | skip)
             obtain rfl := Option.some.inj H
             go_wp2
             repeat (go_quiet (fail); try go_wp2)
             go_ret
             exact ⟨eq_, bl_⟩
            ·rw [if_neg c76] at H
             have c76b0 : (!(((rd_T111 l0 (rd ((rd_T111 l0 a1).f2) 0)).f1.f0.f0) == ((rd_T111 l0 a1).f0.f3.f0)) || (!(((rd_T111 l0 (rd ((rd_T111 l0 a1).f2) 0)).f1.f0.f1) == ((rd_T111 l0 a1).f0.f3.f1)))) = false := by simpa using c76
             clear c76
             (first | rw [c76b0] | (simp only [i64_w, i32_w]; rw [c76b0]) | skip)
             obtain ⟨c77, H⟩ := ifn_ H
             have c77b0 : decide (1 < (((rd_T111 l0 a1).f2).length : Int)) = true := decide_eq_true c77
             have c77b1 : decide (1 < ((rd_T111 l0 a1).f2).length) = true := decide_eq_true (by omega)
             clear c77
             obtain ⟨c78b0, H⟩ := ifd_ H
             obtain ⟨c79b0, H⟩ := ifd_ H
             obtain rfl := Option.some.inj H
             have hnb80 := NB199_200.out
             have hnc80 := NB200_199.out
             have hcz81 := blk_cell BK199.out
             have hfz81 := blk_frozen BK199.out
             have p211 : 0 ≤ (0 : Int) := (by omega)
             have q211 : 0 < (((rd_T111 l0 a1).f2).length : Int) := od_
             obtain ⟨ad211, e211, hx211_0⟩ := Kd.at_int HR198_13.out 0 p211 q211
             obtain rfl : ad209 = ad211 := (by injection e211)
             have qi211 : (0 < ((rd_T111 l0 a1).f2).length) = True := eq_true (by omega)
             (try rw [show ((0 : Int)).toNat = 0 from rfl] at hx211_0)
             (try rw [Addr.add_zero'] at hx211_0)
             replace hx211_0 := cb_ HB hx211_0
             replace p211 := eq_true p211
             replace q211 := eq_true q211
             have p212 : 0 ≤ ((rd ((rd_T111 l0 a1).f2) 0) : Int) := od_
             have q212 : (rd ((rd_T111 l0 a1).f2) 0) < (l0.length : Int) := od_
             obtain ⟨ad212, A212_13, c212_13, e212, hx212_0, hx212_1, hx212_2, hx212_3, hx212_4, hx212_5, hx212_6, hx212_7, hx212_8, hx212_9, hx212_10, hx212_11, hx212_12, hx212_13, hl212_13, hi212_13⟩ := at_T111 HR0.out (rd ((rd_T111 l0 a1).f2) 0) p212 q212
             obtain rfl : ad198 = ad212 := (by injection e212)
             replace hx212_0 := cb_ HB hx212_0
             replace hx212_1 := cb_ HB hx212_1
             replace hx212_2 := cb_ HB hx212_2
             replace hx212_3 := cb_ HB hx212_3
             replace hx212_4 := cb_ HB hx212_4
             replace hx212_5 := cb_ HB hx212_5
             replace hx212_6 := cb_ HB hx212_6
             replace hx212_7 := cb_ HB hx212_7
             replace hx212_8 := cb_ HB hx212_8
             replace hx212_9 := cb_ HB hx212_9
             replace hx212_10 := cb_ HB hx212_10
             replace hx212_11 := cb_ HB hx212_11
             replace hx212_12 := cb_ HB hx212_12
             replace hx212_13 := cb_ HB hx212_13
             have HR212_13 := aa_ hi212_13
             have HC212_13 := aa_ hl212_13
             clear hi212_13 hl212_13
             replace p212 := eq_true p212
             replace q212 := eq_true q212
             have p213 : 0 ≤ (1 : Int) := (by omega)
             have q213 : 1 < (((rd_T111 l0 a1).f2).length : Int) := od_
             obtain ⟨ad213, e213, hx213_0⟩ := Kd.at_int HR198_13.out 1 p213 q213
             obtain rfl : ad209 = ad213 := (by injection e213)
             (try simp only [show (1 : Int).toNat = 1 from rfl, Nat.reduceMul, Nat.reduceEqDiff, Go.Addr.add, ↓reduceIte] at hx213_0)
             have qi213 : (1 < ((rd_T111 l0 a1).f2).length) = True := eq_true (by omega)
             (try rw [show ((1 : Int)).toNat = 1 from rfl] at hx213_0)
             replace hx213_0 := cb_ HB hx213_0
             replace p213 := eq_true p213
             replace q213 := eq_true q213
             have p214 : 0 ≤ ((rd ((rd_T111 l0 a1).f2) 1) : Int) := od_
             have q214 : (rd ((rd_T111 l0 a1).f2) 1) < (l0.length : Int) := od_
             obtain ⟨ad214, A214_13, c214_13, e214, hx214_0, hx214_1, hx214_2, hx214_3, hx214_4, hx214_5, hx214_6, hx214_7, hx214_8, hx214_9, hx214_10, hx214_11, hx214_12, hx214_13, hl214_13, hi214_13⟩ := at_T111 HR0.out (rd ((rd_T111 l0 a1).f2) 1) p214 q214
             obtain rfl : ad198 = ad214 := (by injection e214)
             replace hx214_0 := cb_ HB hx214_0
             replace hx214_1 := cb_ HB hx214_1
             replace hx214_2 := cb_ HB hx214_2
             replace hx214_3 := cb_ HB hx214_3
             replace hx214_4 := cb_ HB hx214_4
             replace hx214_5 := cb_ HB hx214_5
             replace hx214_6 := cb_ HB hx214_6
             replace hx214_7 := cb_ HB hx214_7
             replace hx214_8 := cb_ HB hx214_8
             replace hx214_9 := cb_ HB hx214_9
             replace hx214_10 := cb_ HB hx214_10
             replace hx214_11 := cb_ HB hx214_11
             replace hx214_12 := cb_ HB hx214_12
             replace hx214_13 := cb_ HB hx214_13
             have HR214_13 := aa_ hi214_13
             have HC214_13 := aa_ hl214_13
             clear hi214_13 hl214_13
             replace p214 := eq_true p214
             replace q214 := eq_true q214
             have hcz82 := blk_cell BK200.out
             have hfz82 := blk_frozen BK200.out
             go_wp2
             repeat (go_quiet (fail); try go_wp2)
             go_ret
             exact ⟨eq_, bl_⟩
           ·rw [if_neg c68] at H
            have c68b0 : ((((rd_T111 l0 a1).f2).length : Int) == 2) = false := beq_eq_false_iff_ne.mpr c68
            have c68b1 : ((((rd_T111 l0 a1).f2).length : Int) != 2) = true := bne_iff_ne.mpr c68
            obtain rfl := Option.some.inj H
            have hnb83 := NB199_200.out
            have hnc83 := NB200_199.out
            have hcz84 := blk_cell BK199.out
            have hfz84 := blk_frozen BK199.out
            have hcz85 := blk_cell BK200.out
            have hfz85 := blk_frozen BK200.out
            go_wp2
            repeat (go_quiet (fail); try go_wp2)
            go_ret
            exact ⟨eq_, bl_⟩
 ·replace c5 := Bool.eq_false_iff.mpr c5
  subst c5
  replace H := ite_f_ H
  obtain rfl := Option.some.inj H
  go_wp2
  repeat (go_quiet (fail); try go_wp2)
  go_ret
  exact ⟨eq_, bl_⟩
end Go.Proofs.YteofimccoadmeaaGreat.PA
