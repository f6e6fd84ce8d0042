import Derived.Test.YteofimccoadmeaaGreatKWPAx16
-- printed by wip/tools
namespace Go.Proofs.YteofimccoadmeaaGreat.PA
open Go.RowKit Go.Proofs.YteofimccoadmeaaGreatW.PrintWords Go.Proofs.YteofimccoadmeaaGreatW.PrintLast Go.Proofs.YteofimccoadmeaaGreatW.PrintMore
attribute [local go_sem] max2_int min2_int max_two min_two max_three min_three max_four min_four
set_option linter.unusedVariables false
set_option linter.unusedSimpArgs false
attribute [local go_sem high] eqA77 eqA79
mutual
def impl_StepOk.j0 : Nat → List (S111) → Int → Bool → Int → Int → Int → Int → Int → Int → Int → Int → Int → Int → Int → Int → Int → List Int → Option (Bool)
 | 0, _, _, _, _, _, _, _, _, _, _, _, _, _, _, _, _, _ => none
 | k + 1, x0, x1, x34, x516000, x516001, x516002, x516003, x516004, x516005, x516006, x516007, x516008, x516009, x516010, x516011, x516012, x516013 => if x34 = true then (some false) else (impl_StepOk.l0 k x0 x1 (([] : List (S79))) x516013 (x516013.length : Int) 0 x516000 x516001 x516002 x516003 x516004 x516005 x516006 x516007 x516008 x516009 x516010 x516011 x516012 x516013)
def impl_StepOk.l0 : Nat → List (S111) → Int → List (S79) → List Int → Int → Int → Int → Int → Int → Int → Int → Int → Int → Int → Int → Int → Int → Int → Int → List Int → Option (Bool)
 | 0, _, _, _, _, _, _, _, _, _, _, _, _, _, _, _, _, _, _, _, _ => none
 | k + 1, x0, x1, x6, x37, x38, x39, x516000, x516001, x516002, x516003, x516004, x516005, x516006, x516007, x516008, x516009, x516010, x516011, x516012, x516013 => if x39 < x38 then (if 0 ≤ x39 then (if x39 < (x37.length : Int) then ((impl_shown.f x0 x1 (rd x37 x39)).bind fun bt521 => (if bt521.2.2.2 = true then (if x6.length < 5864062014805 then (impl_StepOk.l0 k x0 x1 (x6 ++ [(⟨(⟨bt521.1, bt521.2.1⟩ : S77), bt521.2.2.1⟩ : S79)]) x37 x38 (wrap64 (x39 + 1)) x516000 x516001 x516002 x516003 x516004 x516005 x516006 x516007 x516008 x516009 x516010 x516011 x516012 x516013) else (none)) else (some false))) else (none)) else (none)) else (if x516000 = 1 then (if (x6.length : Int) = 0 then (some (x516012 == x516003)) else (some false)) else (if x516000 = 2 then (if (x6.length : Int) = 1 then (if 0 < (x6.length : Int) then (some ((((rd_T79 x6 0).f0.f0) == x516004 && (((rd_T79 x6 0).f0.f1) == x516005)) && (((rd_T79 x6 0).f1) == x516012))) else (none)) else (some false)) else (if x516000 = 3 then (if (x6.length : Int) = 2 then (if 0 < (x6.length : Int) then (if (((rd_T79 x6 0).f0.f0) == x516004 && (((rd_T79 x6 0).f0.f1) == x516005)) = true then (if 1 < (x6.length : Int) then (some ((((rd_T79 x6 1).f0.f0) == ((rd_T79 x6 0).f1) && (((rd_T79 x6 1).f0.f1) == x516007)) && (((rd_T79 x6 1).f1) == x516012))) else (none)) else (some false)) else (none)) else (some false)) else (if (x6.length : Int) = 2 then (if 0 < (x6.length : Int) then (if ((((rd_T79 x6 0).f0.f0) == x516004 && (((rd_T79 x6 0).f0.f1) == x516005)) && (((rd_T79 x6 0).f1) == x516012)) = true then (if 1 < (x6.length : Int) then (some ((((rd_T79 x6 1).f0.f0) == x516006 && (((rd_T79 x6 1).f0.f1) == x516007)) && (((rd_T79 x6 1).f1) == x516012))) else (none)) else (some false)) else (none)) else (some false)))))
end
def impl_StepOk.f (k : Nat) (l0 : List (S111)) (a1 : Int) : Option (Bool) := (impl_in.f a1 0 (wrap64 ((l0.length : Int) - 1))).bind fun t513 => (if t513 = true then (if 0 ≤ a1 then (if a1 < (l0.length : Int) then ((impl_CredOk.f k ((rd_T111 l0 a1).f0.f0) ((rd_T111 l0 a1).f0.f1.f0) ((rd_T111 l0 a1).f0.f1.f1) ((rd_T111 l0 a1).f0.f2) ((rd_T111 l0 a1).f0.f3.f0) ((rd_T111 l0 a1).f0.f3.f1) ((rd_T111 l0 a1).f0.f4.f0) ((rd_T111 l0 a1).f0.f4.f1) ((rd_T111 l0 a1).f0.f5) ((rd_T111 l0 a1).f0.f6)).bind fun t516 => (if t516 = true then (impl_StepOk.j0 k l0 a1 (!(((rd_T111 l0 a1).f1.f0.f0) == ((rd_T111 l0 a1).f0.f1.f0)) || (!(((rd_T111 l0 a1).f1.f0.f1) == ((rd_T111 l0 a1).f0.f1.f1)))) ((rd_T111 l0 a1).f0.f0) ((rd_T111 l0 a1).f0.f1.f0) ((rd_T111 l0 a1).f0.f1.f1) ((rd_T111 l0 a1).f0.f2) ((rd_T111 l0 a1).f0.f3.f0) ((rd_T111 l0 a1).f0.f3.f1) ((rd_T111 l0 a1).f0.f4.f0) ((rd_T111 l0 a1).f0.f4.f1) ((rd_T111 l0 a1).f0.f5) ((rd_T111 l0 a1).f0.f6) ((rd_T111 l0 a1).f1.f0.f0) ((rd_T111 l0 a1).f1.f0.f1) ((rd_T111 l0 a1).f1.f1) ((rd_T111 l0 a1).f2)) else (impl_StepOk.j0 k l0 a1 true ((rd_T111 l0 a1).f0.f0) ((rd_T111 l0 a1).f0.f1.f0) ((rd_T111 l0 a1).f0.f1.f1) ((rd_T111 l0 a1).f0.f2) ((rd_T111 l0 a1).f0.f3.f0) ((rd_T111 l0 a1).f0.f3.f1) ((rd_T111 l0 a1).f0.f4.f0) ((rd_T111 l0 a1).f0.f4.f1) ((rd_T111 l0 a1).f0.f5) ((rd_T111 l0 a1).f0.f6) ((rd_T111 l0 a1).f1.f0.f0) ((rd_T111 l0 a1).f1.f0.f1) ((rd_T111 l0 a1).f1.f1) ((rd_T111 l0 a1).f2)))) else (none)) else (none)) else (some false))
set_option maxHeartbeats 8000000 in
set_option maxRecDepth 100000 in
theorem impl_StepOk.calls (k : Nat) (A0 : Option Addr) (c0 : Nat) (l0 : List (S111)) (a1 : Int) (r : Bool) (w : World) (hr0 : Kd.C k111 w A0 l0.length l0) (hc0 : l0.length ≤ c0) (h : impl_StepOk.f k l0 a1 = some r) :
  Calls Tryz.prog 88 #[.slice A0 l0.length c0, .int .i64 a1] w fun e w' => e = .returned (.bool r) ∧ Below w.heap.size w w' := by
 have hu111 := Tryz.underlying111
 have hu83 := Tryz.underlying83
 have hu77 := Tryz.underlying77
 have hu79 := Tryz.underlying79
 have HR0 := aa_ hr0
 have HC0 := aa_ hc0
 clear hr0 hc0
 have HB := aa_ (Below.refl w.heap.size w)
 have H : ((impl_in.f a1 0 (wrap64 ((l0.length : Int) - 1))).bind fun t513 => (if t513 = true then (if 0 ≤ a1 then (if a1 < (l0.length : Int) then ((impl_CredOk.f k ((rd_T111 l0 a1).f0.f0) ((rd_T111 l0 a1).f0.f1.f0) ((rd_T111 l0 a1).f0.f1.f1) ((rd_T111 l0 a1).f0.f2) ((rd_T111 l0 a1).f0.f3.f0) ((rd_T111 l0 a1).f0.f3.f1) ((rd_T111 l0 a1).f0.f4.f0) ((rd_T111 l0 a1).f0.f4.f1) ((rd_T111 l0 a1).f0.f5) ((rd_T111 l0 a1).f0.f6)).bind fun t516 => (if t516 = true then (impl_StepOk.j0 k l0 a1 (!(((rd_T111 l0 a1).f1.f0.f0) == ((rd_T111 l0 a1).f0.f1.f0)) || (!(((rd_T111 l0 a1).f1.f0.f1) == ((rd_T111 l0 a1).f0.f1.f1)))) ((rd_T111 l0 a1).f0.f0) ((rd_T111 l0 a1).f0.f1.f0) ((rd_T111 l0 a1).f0.f1.f1) ((rd_T111 l0 a1).f0.f2) ((rd_T111 l0 a1).f0.f3.f0) ((rd_T111 l0 a1).f0.f3.f1) ((rd_T111 l0 a1).f0.f4.f0) ((rd_T111 l0 a1).f0.f4.f1) ((rd_T111 l0 a1).f0.f5) ((rd_T111 l0 a1).f0.f6) ((rd_T111 l0 a1).f1.f0.f0) ((rd_T111 l0 a1).f1.f0.f1) ((rd_T111 l0 a1).f1.f1) ((rd_T111 l0 a1).f2)) else (impl_StepOk.j0 k l0 a1 true ((rd_T111 l0 a1).f0.f0) ((rd_T111 l0 a1).f0.f1.f0) ((rd_T111 l0 a1).f0.f1.f1) ((rd_T111 l0 a1).f0.f2) ((rd_T111 l0 a1).f0.f3.f0) ((rd_T111 l0 a1).f0.f3.f1) ((rd_T111 l0 a1).f0.f4.f0) ((rd_T111 l0 a1).f0.f4.f1) ((rd_T111 l0 a1).f0.f5) ((rd_T111 l0 a1).f0.f6) ((rd_T111 l0 a1).f1.f0.f0) ((rd_T111 l0 a1).f1.f0.f1) ((rd_T111 l0 a1).f1.f1) ((rd_T111 l0 a1).f2)))) else (none)) else (none)) else (some false))) = some r := h
 clear h
 obtain ⟨t513, A3, H⟩ := bindE_ H
 have HC4 := aa_ H
 clear H
 go_enter Tryz.func88, Tryz.ntmps88
 go_upto_if 17 with (first | (go_at_call 41; (with_reducible refine (impl_in.calls a1 0 (wrap64 ((l0.length : Int) - 1)) t513 _ A3.out).mono ?_); rintro e w' ⟨rfl, ⟨nd, rfl⟩⟩; (try first | exact ⟨rfl, _, World.drewN_drewN _ _ _⟩ | exact ⟨rfl, _, Eq.trans (World.drewN_drewN _ _ _) (congrArg (World.drewN _) (Nat.add_assoc _ _ _))⟩)))
 repeat (go_quiet (first | (go_at_call 41; (with_reducible refine (impl_in.calls a1 0 (wrap64 ((l0.length : Int) - 1)) t513 _ A3.out).mono ?_); rintro e w' ⟨rfl, ⟨nd, rfl⟩⟩; (try first | exact ⟨rfl, _, World.drewN_drewN _ _ _⟩ | exact ⟨rfl, _, Eq.trans (World.drewN_drewN _ _ _) (congrArg (World.drewN _) (Nat.add_assoc _ _ _))⟩))); go_upto_if 17 with (first | (go_at_call 41; (with_reducible refine (impl_in.calls a1 0 (wrap64 ((l0.length : Int) - 1)) t513 _ A3.out).mono ?_); rintro e w' ⟨rfl, ⟨nd, rfl⟩⟩; (try first | exact ⟨rfl, _, World.drewN_drewN _ _ _⟩ | exact ⟨rfl, _, Eq.trans (World.drewN_drewN _ _ _) (congrArg (World.drewN _) (Nat.add_assoc _ _ _))⟩))))
 (try simp only [Act.put, sb_, sz_, ss_])
 have H := HC4.out
 clear HC4
 by_cases c5 : t513 = true
 ·subst c5
  replace H := ite_t_ H
  obtain ⟨c6b0, H⟩ := ifd_ H
  (first | rw [c6b0] | (simp only [i64_w, i32_w]; rw [c6b0]) | skip)
  obtain ⟨c7b0, H⟩ := ifd_ H
  have HC8 := aa_ H
  clear H
  have p514 : 0 ≤ (a1 : Int) := od_
  have q514 : a1 < (l0.length : Int) := od_
  obtain ⟨ad514, A514_13, c514_13, e514, hx514_0, hx514_1, hx514_2, hx514_3, hx514_4, hx514_5, hx514_6, hx514_7, hx514_8, hx514_9, hx514_10, hx514_11, hx514_12, hx514_13, hl514_13, hi514_13⟩ := at_T111 HR0.out a1 p514 q514
  cases e514
  replace hx514_0 := cb_ HB hx514_0
  replace hx514_1 := cb_ HB hx514_1
  replace hx514_2 := cb_ HB hx514_2
  replace hx514_3 := cb_ HB hx514_3
  replace hx514_4 := cb_ HB hx514_4
  replace hx514_5 := cb_ HB hx514_5
  replace hx514_6 := cb_ HB hx514_6
  replace hx514_7 := cb_ HB hx514_7
  replace hx514_8 := cb_ HB hx514_8
  replace hx514_9 := cb_ HB hx514_9
  replace hx514_10 := cb_ HB hx514_10
  replace hx514_11 := cb_ HB hx514_11
  replace hx514_12 := cb_ HB hx514_12
  replace hx514_13 := cb_ HB hx514_13
  have HR514_13 := aa_ hi514_13
  have HC514_13 := aa_ hl514_13
  clear hi514_13 hl514_13
  replace p514 := eq_true p514
  replace q514 := eq_true q514
  go_upto_region 4 with (first | ((with_reducible refine gD_ 5 rfl ?_); refine bx_ (N := 5) (cs := #[.int .i64 0, .int .i64 0, .int .i64 0, .int .i64 0, .int .i64 0, .int .i64 0, .int .i64 0, .int .i64 0, .int .i64 0, .int .i64 0, .int .i64 0, .int .i64 0, .int .i64 0, .slice none 0 0]) (t := 111) ?_; intro gb515 hg w9 hbox hb; have BK515 := aa_ (hbox); have GW515 := gs_ hg; have GE515 := gs_ hg; replace HB := hbs_ hb; clear hb hbox hg; obtain ⟨hcz10, hfz10⟩ := bcf_ BK515))
  repeat (go_quiet (first | ((with_reducible refine gD_ 5 rfl ?_); refine bx_ (N := 5) (cs := #[.int .i64 0, .int .i64 0, .int .i64 0, .int .i64 0, .int .i64 0, .int .i64 0, .int .i64 0, .int .i64 0, .int .i64 0, .int .i64 0, .int .i64 0, .int .i64 0, .int .i64 0, .slice none 0 0]) (t := 111) ?_; intro gb515 hg w9 hbox hb; have BK515 := aa_ (hbox); have GW515 := gs_ hg; have GE515 := gs_ hg; replace HB := hbs_ hb; clear hb hbox hg; obtain ⟨hcz10, hfz10⟩ := bcf_ BK515)); go_upto_region 4 with (first | ((with_reducible refine gD_ 5 rfl ?_); refine bx_ (N := 5) (cs := #[.int .i64 0, .int .i64 0, .int .i64 0, .int .i64 0, .int .i64 0, .int .i64 0, .int .i64 0, .int .i64 0, .int .i64 0, .int .i64 0, .int .i64 0, .int .i64 0, .int .i64 0, .slice none 0 0]) (t := 111) ?_; intro gb515 hg w9 hbox hb; have BK515 := aa_ (hbox); have GW515 := gs_ hg; have GE515 := gs_ hg; replace HB := hbs_ hb; clear hb hbox hg; obtain ⟨hcz10, hfz10⟩ := bcf_ BK515)))
  (try simp only [Act.put, sb_, sz_, ss_])
  go_cut [34] (fun v34 wc => ∃ (kq : Nat) (x34_7 : Bool), v34 = .bool x34_7 ∧ Aside0 (impl_StepOk.j0 kq l0 a1 x34_7 ((rd_T111 l0 a1).f0.f0) ((rd_T111 l0 a1).f0.f1.f0) ((rd_T111 l0 a1).f0.f1.f1) ((rd_T111 l0 a1).f0.f2) ((rd_T111 l0 a1).f0.f3.f0) ((rd_T111 l0 a1).f0.f3.f1) ((rd_T111 l0 a1).f0.f4.f0) ((rd_T111 l0 a1).f0.f4.f1) ((rd_T111 l0 a1).f0.f5) ((rd_T111 l0 a1).f0.f6) ((rd_T111 l0 a1).f1.f0.f0) ((rd_T111 l0 a1).f1.f0.f1) ((rd_T111 l0 a1).f1.f1) ((rd_T111 l0 a1).f2) = some r) ∧ Aside0 (kq ≤ k) ∧ Aside0 (wc.heap[gb515]? = some (.cells #[.int .i64 ((rd_T111 l0 a1).f0.f0), .int .i64 ((rd_T111 l0 a1).f0.f1.f0), .int .i64 ((rd_T111 l0 a1).f0.f1.f1), .int .i64 ((rd_T111 l0 a1).f0.f2), .int .i64 ((rd_T111 l0 a1).f0.f3.f0), .int .i64 ((rd_T111 l0 a1).f0.f3.f1), .int .i64 ((rd_T111 l0 a1).f0.f4.f0), .int .i64 ((rd_T111 l0 a1).f0.f4.f1), .int .i64 ((rd_T111 l0 a1).f0.f5), .int .i64 ((rd_T111 l0 a1).f0.f6), .int .i64 ((rd_T111 l0 a1).f1.f0.f0), .int .i64 ((rd_T111 l0 a1).f1.f0.f1), .int .i64 ((rd_T111 l0 a1).f1.f1), (.slice A514_13 ((rd_T111 l0 a1).f2).length c514_13)] 111 (0, 0))) ∧ Aside0 (Below w.heap.size w wc))
  case first =>
   have H := HC8.out
   clear HC8
   obtain ⟨t516, A11, H⟩ := bindE_ H
   by_cases c12 : t516 = true
   ·subst c12
    replace H := ite_t_ H
    have H' := aa_ H
    clear H
    have hcz13 := blk_cell BK515.out
    have hfz13 := blk_frozen BK515.out
    go_wp2_with (first | (go_at_call 89; (with_reducible refine (impl_CredOk.calls k ((rd_T111 l0 a1).f0.f0) ((rd_T111 l0 a1).f0.f1.f0) ((rd_T111 l0 a1).f0.f1.f1) ((rd_T111 l0 a1).f0.f2) ((rd_T111 l0 a1).f0.f3.f0) ((rd_T111 l0 a1).f0.f3.f1) ((rd_T111 l0 a1).f0.f4.f0) ((rd_T111 l0 a1).f0.f4.f1) ((rd_T111 l0 a1).f0.f5) ((rd_T111 l0 a1).f0.f6) true _ A11.out).mono ?_); rintro e w14 ⟨rfl, hb⟩; replace BK515 := aa_ (blk_below (g := gb515) (o := .cells #[.int .i64 ((rd_T111 l0 a1).f0.f0), .int .i64 ((rd_T111 l0 a1).f0.f1.f0), .int .i64 ((rd_T111 l0 a1).f0.f1.f1), .int .i64 ((rd_T111 l0 a1).f0.f2), .int .i64 ((rd_T111 l0 a1).f0.f3.f0), .int .i64 ((rd_T111 l0 a1).f0.f3.f1), .int .i64 ((rd_T111 l0 a1).f0.f4.f0), .int .i64 ((rd_T111 l0 a1).f0.f4.f1), .int .i64 ((rd_T111 l0 a1).f0.f5), .int .i64 ((rd_T111 l0 a1).f0.f6), .int .i64 ((rd_T111 l0 a1).f1.f0.f0), .int .i64 ((rd_T111 l0 a1).f1.f0.f1), .int .i64 ((rd_T111 l0 a1).f1.f1), .slice A514_13 ((rd_T111 l0 a1).f2).length c514_13] 111 (0, 0)) (bk_ BK515) hb); replace HB := hbs_ hb; clear hb; obtain ⟨hcz15, hfz15⟩ := bcf_ BK515))
    repeat (go_quiet (first | (go_at_call 89; (with_reducible refine (impl_CredOk.calls k ((rd_T111 l0 a1).f0.f0) ((rd_T111 l0 a1).f0.f1.f0) ((rd_T111 l0 a1).f0.f1.f1) ((rd_T111 l0 a1).f0.f2) ((rd_T111 l0 a1).f0.f3.f0) ((rd_T111 l0 a1).f0.f3.f1) ((rd_T111 l0 a1).f0.f4.f0) ((rd_T111 l0 a1).f0.f4.f1) ((rd_T111 l0 a1).f0.f5) ((rd_T111 l0 a1).f0.f6) true _ A11.out).mono ?_); rintro e w14 ⟨rfl, hb⟩; replace BK515 := aa_ (blk_below (g := gb515) (o := .cells #[.int .i64 ((rd_T111 l0 a1).f0.f0), .int .i64 ((rd_T111 l0 a1).f0.f1.f0), .int .i64 ((rd_T111 l0 a1).f0.f1.f1), .int .i64 ((rd_T111 l0 a1).f0.f2), .int .i64 ((rd_T111 l0 a1).f0.f3.f0), .int .i64 ((rd_T111 l0 a1).f0.f3.f1), .int .i64 ((rd_T111 l0 a1).f0.f4.f0), .int .i64 ((rd_T111 l0 a1).f0.f4.f1), .int .i64 ((rd_T111 l0 a1).f0.f5), .int .i64 ((rd_T111 l0 a1).f0.f6), .int .i64 ((rd_T111 l0 a1).f1.f0.f0), .int .i64 ((rd_T111 l0 a1).f1.f0.f1), .int .i64 ((rd_T111 l0 a1).f1.f1), .slice A514_13 ((rd_T111 l0 a1).f2).length c514_13] 111 (0, 0)) (bk_ BK515) hb); replace HB := hbs_ hb; clear hb; obtain ⟨hcz15, hfz15⟩ := bcf_ BK515)); try go_wp2_with (first | (go_at_call 89; (with_reducible refine (impl_CredOk.calls k ((rd_T111 l0 a1).f0.f0) ((rd_T111 l0 a1).f0.f1.f0) ((rd_T111 l0 a1).f0.f1.f1) ((rd_T111 l0 a1).f0.f2) ((rd_T111 l0 a1).f0.f3.f0) ((rd_T111 l0 a1).f0.f3.f1) ((rd_T111 l0 a1).f0.f4.f0) ((rd_T111 l0 a1).f0.f4.f1) ((rd_T111 l0 a1).f0.f5) ((rd_T111 l0 a1).f0.f6) true _ A11.out).mono ?_); rintro e w14 ⟨rfl, hb⟩; replace BK515 := aa_ (blk_below (g := gb515) (o := .cells #[.int .i64 ((rd_T111 l0 a1).f0.f0), .int .i64 ((rd_T111 l0 a1).f0.f1.f0), .int .i64 ((rd_T111 l0 a1).f0.f1.f1), .int .i64 ((rd_T111 l0 a1).f0.f2), .int .i64 ((rd_T111 l0 a1).f0.f3.f0), .int .i64 ((rd_T111 l0 a1).f0.f3.f1), .int .i64 ((rd_T111 l0 a1).f0.f4.f0), .int .i64 ((rd_T111 l0 a1).f0.f4.f1), .int .i64 ((rd_T111 l0 a1).f0.f5), .int .i64 ((rd_T111 l0 a1).f0.f6), .int .i64 ((rd_T111 l0 a1).f1.f0.f0), .int .i64 ((rd_T111 l0 a1).f1.f0.f1), .int .i64 ((rd_T111 l0 a1).f1.f1), .slice A514_13 ((rd_T111 l0 a1).f2).length c514_13] 111 (0, 0)) (bk_ BK515) hb); replace HB := hbs_ hb; clear hb; obtain ⟨hcz15, hfz15⟩ := bcf_ BK515)))
    go_meet
    case rel => exact ⟨_, ((!(((rd_T111 l0 a1).f1.f0.f0) == ((rd_T111 l0 a1).f0.f1.f0)) || (!(((rd_T111 l0 a1).f1.f0.f1) == ((rd_T111 l0 a1).f0.f1.f1))))), rf_, H', ⟨by first | omega | exact Nat.le_refl _⟩, ⟨bk_ BK515⟩, ⟨bl_⟩⟩
   ·replace c12 := Bool.eq_false_iff.mpr c12
    subst c12
    replace H := ite_f_ H
    have H' := aa_ H
    clear H
    have hcz16 := blk_cell BK515.out
    have hfz16 := blk_frozen BK515.out
    go_wp2_with (first | (go_at_call 89; (with_reducible refine (impl_CredOk.calls k ((rd_T111 l0 a1).f0.f0) ((rd_T111 l0 a1).f0.f1.f0) ((rd_T111 l0 a1).f0.f1.f1) ((rd_T111 l0 a1).f0.f2) ((rd_T111 l0 a1).f0.f3.f0) ((rd_T111 l0 a1).f0.f3.f1) ((rd_T111 l0 a1).f0.f4.f0) ((rd_T111 l0 a1).f0.f4.f1) ((rd_T111 l0 a1).f0.f5) ((rd_T111 l0 a1).f0.f6) false _ A11.out).mono ?_); rintro e w17 ⟨rfl, hb⟩; replace BK515 := aa_ (blk_below (g := gb515) (o := .cells #[.int .i64 ((rd_T111 l0 a1).f0.f0), .int .i64 ((rd_T111 l0 a1).f0.f1.f0), .int .i64 ((rd_T111 l0 a1).f0.f1.f1), .int .i64 ((rd_T111 l0 a1).f0.f2), .int .i64 ((rd_T111 l0 a1).f0.f3.f0), .int .i64 ((rd_T111 l0 a1).f0.f3.f1), .int .i64 ((rd_T111 l0 a1).f0.f4.f0), .int .i64 ((rd_T111 l0 a1).f0.f4.f1), .int .i64 ((rd_T111 l0 a1).f0.f5), .int .i64 ((rd_T111 l0 a1).f0.f6), .int .i64 ((rd_T111 l0 a1).f1.f0.f0), .int .i64 ((rd_T111 l0 a1).f1.f0.f1), .int .i64 ((rd_T111 l0 a1).f1.f1), .slice A514_13 ((rd_T111 l0 a1).f2).length c514_13] 111 (0, 0)) (bk_ BK515) hb); replace HB := hbs_ hb; clear hb))
    repeat (go_quiet (first | (go_at_call 89; (with_reducible refine (impl_CredOk.calls k ((rd_T111 l0 a1).f0.f0) ((rd_T111 l0 a1).f0.f1.f0) ((rd_T111 l0 a1).f0.f1.f1) ((rd_T111 l0 a1).f0.f2) ((rd_T111 l0 a1).f0.f3.f0) ((rd_T111 l0 a1).f0.f3.f1) ((rd_T111 l0 a1).f0.f4.f0) ((rd_T111 l0 a1).f0.f4.f1) ((rd_T111 l0 a1).f0.f5) ((rd_T111 l0 a1).f0.f6) false _ A11.out).mono ?_); rintro e w17 ⟨rfl, hb⟩; replace BK515 := aa_ (blk_below (g := gb515) (o := .cells #[.int .i64 ((rd_T111 l0 a1).f0.f0), .int .i64 ((rd_T111 l0 a1).f0.f1.f0), .int .i64 ((rd_T111 l0 a1).f0.f1.f1), .int .i64 ((rd_T111 l0 a1).f0.f2), .int .i64 ((rd_T111 l0 a1).f0.f3.f0), .int .i64 ((rd_T111 l0 a1).f0.f3.f1), .int .i64 ((rd_T111 l0 a1).f0.f4.f0), .int .i64 ((rd_T111 l0 a1).f0.f4.f1), .int .i64 ((rd_T111 l0 a1).f0.f5), .int .i64 ((rd_T111 l0 a1).f0.f6), .int .i64 ((rd_T111 l0 a1).f1.f0.f0), .int .i64 ((rd_T111 l0 a1).f1.f0.f1), .int .i64 ((rd_T111 l0 a1).f1.f1), .slice A514_13 ((rd_T111 l0 a1).f2).length c514_13] 111 (0, 0)) (bk_ BK515) hb); replace HB := hbs_ hb; clear hb)); try go_wp2_with (first | (go_at_call 89; (with_reducible refine (impl_CredOk.calls k ((rd_T111 l0 a1).f0.f0) ((rd_T111 l0 a1).f0.f1.f0) ((rd_T111 l0 a1).f0.f1.f1) ((rd_T111 l0 a1).f0.f2) ((rd_T111 l0 a1).f0.f3.f0) ((rd_T111 l0 a1).f0.f3.f1) ((rd_T111 l0 a1).f0.f4.f0) ((rd_T111 l0 a1).f0.f4.f1) ((rd_T111 l0 a1).f0.f5) ((rd_T111 l0 a1).f0.f6) false _ A11.out).mono ?_); rintro e w17 ⟨rfl, hb⟩; replace BK515 := aa_ (blk_below (g := gb515) (o := .cells #[.int .i64 ((rd_T111 l0 a1).f0.f0), .int .i64 ((rd_T111 l0 a1).f0.f1.f0), .int .i64 ((rd_T111 l0 a1).f0.f1.f1), .int .i64 ((rd_T111 l0 a1).f0.f2), .int .i64 ((rd_T111 l0 a1).f0.f3.f0), .int .i64 ((rd_T111 l0 a1).f0.f3.f1), .int .i64 ((rd_T111 l0 a1).f0.f4.f0), .int .i64 ((rd_T111 l0 a1).f0.f4.f1), .int .i64 ((rd_T111 l0 a1).f0.f5), .int .i64 ((rd_T111 l0 a1).f0.f6), .int .i64 ((rd_T111 l0 a1).f1.f0.f0), .int .i64 ((rd_T111 l0 a1).f1.f0.f1), .int .i64 ((rd_T111 l0 a1).f1.f1), .slice A514_13 ((rd_T111 l0 a1).f2).length c514_13] 111 (0, 0)) (bk_ BK515) hb); replace HB := hbs_ hb; clear hb)))
    go_meet
    case rel => exact ⟨_, (true), rf_, H', ⟨by first | omega | exact Nat.le_refl _⟩, ⟨bk_ BK515⟩, ⟨bl_⟩⟩
  case rest =>
   clear HC8
   try clear p2
   try clear p5
   try clear q5
   try clear hx5
   try clear c6b0
   try clear p6
   try clear c7b0
   try clear hcz10
   try clear hcz13
   try clear hcz15
   try clear hcz16
   try clear hfz10
   try clear hfz13
   try clear hfz15
   try clear hfz16
   try clear hx514_0
   try clear hx514_1
   try clear hx514_10
   try clear hx514_11
   try clear hx514_12
   try clear hx514_13
   try clear hx514_2
   try clear hx514_3
   try clear hx514_4
   try clear hx514_5
   try clear hx514_6
   try clear hx514_7
   try clear hx514_8
   try clear hx514_9
   try clear p514
   try clear q514
   obtain ⟨kq, x34_7, rfl, HA, HJ7, BK515, HB⟩ := hcut
   cases kq with
   | zero => exact absurd HA.out (by simp [impl_StepOk.j0])
   | succ kj7 =>
    have H := HA.out
    clear HA
    simp only [impl_StepOk.j0] at H
    by_cases c18 : x34_7 = true
    ·subst c18
     replace H := ite_t_ H
     obtain rfl := Option.some.inj H
     go_wp2
     repeat (go_quiet (fail); try go_wp2)
     go_ret
     exact ⟨eq_, bl_⟩
    ·replace c18 := Bool.eq_false_iff.mpr c18
     subst c18
     replace H := ite_f_ H
     obtain ⟨y517, hy517⟩ : ∃ y_ : List (S79), y_ = (([] : List (S79))) := ⟨_, rfl⟩
     replace H : (impl_StepOk.l0 kj7 l0 a1 y517 ((rd_T111 l0 a1).f2) (((rd_T111 l0 a1).f2).length : Int) 0 ((rd_T111 l0 a1).f0.f0) ((rd_T111 l0 a1).f0.f1.f0) ((rd_T111 l0 a1).f0.f1.f1) ((rd_T111 l0 a1).f0.f2) ((rd_T111 l0 a1).f0.f3.f0) ((rd_T111 l0 a1).f0.f3.f1) ((rd_T111 l0 a1).f0.f4.f0) ((rd_T111 l0 a1).f0.f4.f1) ((rd_T111 l0 a1).f0.f5) ((rd_T111 l0 a1).f0.f6) ((rd_T111 l0 a1).f1.f0.f0) ((rd_T111 l0 a1).f1.f0.f1) ((rd_T111 l0 a1).f1.f1) ((rd_T111 l0 a1).f2)) = some r := rh_ hy517 H
     have Ny517 := aa_ hy517
     clear hy517
     have H' := aa_ H
     clear H
     go_wp2_with (first | ((with_reducible refine gD_ 35 rfl ?_); refine Kd.R_lit k79 _ 79 ?hg (N := 35) ?hd (xs := ([] : List (S79))) (inner := []) (ok := fun _ => True) (okp := fun _ => True) ?hr ?hp (fun _ hk => hk) trivial (Below.refl _ _) (Nat.le_refl _) (by simp) ?_; (case hd => rfl); (case hg => rfl); (case hr => first | (go_simp; done) | (go_simp; rfl)); (case hp => exact (Reps.none _ _)); intro v518 w19 ho20 hb hg_ hnew_; clear hg_ hnew_; (first | rw [← Ny517.out] at ho20 | (simp only [Int.reduceToNat] at ho20; rw [← Ny517.out] at ho20)); have HO519 := aa_ (Kd.R_lower ho20 bls_); replace BK515 := bkb_ BK515 hb; replace HB := hbs_ hb; clear hb ho20; obtain ⟨hcz21, hfz21⟩ := bcf_ BK515))
     repeat (go_quiet (first | ((with_reducible refine gD_ 35 rfl ?_); refine Kd.R_lit k79 _ 79 ?hg (N := 35) ?hd (xs := ([] : List (S79))) (inner := []) (ok := fun _ => True) (okp := fun _ => True) ?hr ?hp (fun _ hk => hk) trivial (Below.refl _ _) (Nat.le_refl _) (by simp) ?_; (case hd => rfl); (case hg => rfl); (case hr => first | (go_simp; done) | (go_simp; rfl)); (case hp => exact (Reps.none _ _)); intro v518 w19 ho20 hb hg_ hnew_; clear hg_ hnew_; (first | rw [← Ny517.out] at ho20 | (simp only [Int.reduceToNat] at ho20; rw [← Ny517.out] at ho20)); have HO519 := aa_ (Kd.R_lower ho20 bls_); replace BK515 := bkb_ BK515 hb; replace HB := hbs_ hb; clear hb ho20; obtain ⟨hcz21, hfz21⟩ := bcf_ BK515)); try go_wp2_with (first | ((with_reducible refine gD_ 35 rfl ?_); refine Kd.R_lit k79 _ 79 ?hg (N := 35) ?hd (xs := ([] : List (S79))) (inner := []) (ok := fun _ => True) (okp := fun _ => True) ?hr ?hp (fun _ hk => hk) trivial (Below.refl _ _) (Nat.le_refl _) (by simp) ?_; (case hd => rfl); (case hg => rfl); (case hr => first | (go_simp; done) | (go_simp; rfl)); (case hp => exact (Reps.none _ _)); intro v518 w19 ho20 hb hg_ hnew_; clear hg_ hnew_; (first | rw [← Ny517.out] at ho20 | (simp only [Int.reduceToNat] at ho20; rw [← Ny517.out] at ho20)); have HO519 := aa_ (Kd.R_lower ho20 bls_); replace BK515 := bkb_ BK515 hb; replace HB := hbs_ hb; clear hb ho20; obtain ⟨hcz21, hfz21⟩ := bcf_ BK515)))
     go_loopg [6, 39] kj7 (fun kq v6 v39 w' => ∃ (x6_2 : List (S79)) (x39_2 : Int), v39 = .int .i64 x39_2 ∧ Aside0 (impl_StepOk.l0 kq l0 a1 x6_2 ((rd_T111 l0 a1).f2) (((rd_T111 l0 a1).f2).length : Int) x39_2 ((rd_T111 l0 a1).f0.f0) ((rd_T111 l0 a1).f0.f1.f0) ((rd_T111 l0 a1).f0.f1.f1) ((rd_T111 l0 a1).f0.f2) ((rd_T111 l0 a1).f0.f3.f0) ((rd_T111 l0 a1).f0.f3.f1) ((rd_T111 l0 a1).f0.f4.f0) ((rd_T111 l0 a1).f0.f4.f1) ((rd_T111 l0 a1).f0.f5) ((rd_T111 l0 a1).f0.f6) ((rd_T111 l0 a1).f1.f0.f0) ((rd_T111 l0 a1).f1.f0.f1) ((rd_T111 l0 a1).f1.f1) ((rd_T111 l0 a1).f2) = some r) ∧ Aside0 (kq ≤ kj7) ∧ Aside0 (Kd.R k79 79 w' w.heap.size (fun _ => True) v6 x6_2) ∧ Aside0 (w'.heap[gb515]? = some (.cells #[.int .i64 ((rd_T111 l0 a1).f0.f0), .int .i64 ((rd_T111 l0 a1).f0.f1.f0), .int .i64 ((rd_T111 l0 a1).f0.f1.f1), .int .i64 ((rd_T111 l0 a1).f0.f2), .int .i64 ((rd_T111 l0 a1).f0.f3.f0), .int .i64 ((rd_T111 l0 a1).f0.f3.f1), .int .i64 ((rd_T111 l0 a1).f0.f4.f0), .int .i64 ((rd_T111 l0 a1).f0.f4.f1), .int .i64 ((rd_T111 l0 a1).f0.f5), .int .i64 ((rd_T111 l0 a1).f0.f6), .int .i64 ((rd_T111 l0 a1).f1.f0.f0), .int .i64 ((rd_T111 l0 a1).f1.f0.f1), .int .i64 ((rd_T111 l0 a1).f1.f1), (.slice A514_13 ((rd_T111 l0 a1).f2).length c514_13)] 111 (0, 0))) ∧ Aside0 (Below w.heap.size w w'))
     case atStart => exact ⟨(y517), (0), rf_, H', ⟨Nat.le_refl _⟩, ⟨rr_ HO519⟩, ⟨bk_ BK515⟩, ⟨bl_⟩⟩
     case round =>
      clear H'
      try clear p2
      try clear p5
      try clear q5
      try clear hx5
      try clear c6b0
      try clear p6
      try clear c7b0
      try clear hcz10
      try clear hcz13
      try clear hcz15
      try clear hcz16
      try clear hcz21
      try clear hfz10
      try clear hfz13
      try clear hfz15
      try clear hfz16
      try clear hfz21
      try clear hx514_0
      try clear hx514_1
      try clear hx514_10
      try clear hx514_11
      try clear hx514_12
      try clear hx514_13
      try clear hx514_2
      try clear hx514_3
      try clear hx514_4
      try clear hx514_5
      try clear hx514_6
      try clear hx514_7
      try clear hx514_8
      try clear hx514_9
      try clear p2
      try clear p5
      try clear p514
      try clear p6
      try clear q5
      try clear q514
      obtain ⟨x6_2, x39_2, rfl, HA, HK2, HO_6, BK515, HB⟩ := hrel
      cases gk with
      | zero => exact absurd HA.out (by simp [impl_StepOk.l0])
      | succ k2 =>
       have H := HA.out
       clear HA
       simp only [impl_StepOk.l0] at H
       by_cases c22 : x39_2 < (((rd_T111 l0 a1).f2).length : Int)
       ·rw [if_pos c22] at H
        have c22b0 : decide (x39_2 < (((rd_T111 l0 a1).f2).length : Int)) = true := decide_eq_true c22
        clear c22
        obtain ⟨c23b0, H⟩ := ifd_ H
        obtain ⟨c24b0, H⟩ := ifd_ H
        obtain ⟨⟨t521, t522, t523, t524⟩, A25, H⟩ := bindE_ H
        replace H : (if t524 = true then (if x6_2.length < 5864062014805 then (impl_StepOk.l0 k2 l0 a1 (x6_2 ++ [(⟨(⟨t521, t522⟩ : S77), t523⟩ : S79)]) ((rd_T111 l0 a1).f2) (((rd_T111 l0 a1).f2).length : Int) (wrap64 (x39_2 + 1)) ((rd_T111 l0 a1).f0.f0) ((rd_T111 l0 a1).f0.f1.f0) ((rd_T111 l0 a1).f0.f1.f1) ((rd_T111 l0 a1).f0.f2) ((rd_T111 l0 a1).f0.f3.f0) ((rd_T111 l0 a1).f0.f3.f1) ((rd_T111 l0 a1).f0.f4.f0) ((rd_T111 l0 a1).f0.f4.f1) ((rd_T111 l0 a1).f0.f5) ((rd_T111 l0 a1).f0.f6) ((rd_T111 l0 a1).f1.f0.f0) ((rd_T111 l0 a1).f1.f0.f1) ((rd_T111 l0 a1).f1.f1) ((rd_T111 l0 a1).f2)) else (none)) else (some false)) = some r := H
        have HC26 := aa_ H
        clear H
        have p520 : 0 ≤ (x39_2 : Int) := od_
        have q520 : x39_2 < (((rd_T111 l0 a1).f2).length : Int) := od_
        obtain ⟨ad520, e520, hx520_0⟩ := Kd.at_int (Kd.C_below HR514_13.out HB.out) x39_2 p520 q520
        cases e520
        replace p520 := eq_true p520
        replace q520 := eq_true q520
        go_upto_if 51 with (first | (go_at_call 96; (with_reducible refine (impl_shown.calls _ _ l0 a1 (rd ((rd_T111 l0 a1).f2) x39_2) t521 t522 t523 t524 _ ?side1 ?side2 A25.out).mono ?_); (case side1 => repeat (first | exact (Kd.C_below HR0.out HB.out) | (with_reducible refine Kd.C_alloc ?_ _) | (with_reducible refine Kd.C_drewN ?_ _) | (with_reducible refine Kd.C_drew ?_))); (case side2 => exact HC0.out); rintro e w27 ⟨rfl, hb⟩; replace HO_6 := hob_ HO_6 hb; replace BK515 := bkb_ BK515 hb; replace HB := hbs_ hb; clear hb) | ((with_reducible refine gD_ 9 rfl ?_); refine bx_ (N := 9) (cs := #[.int .i64 0, .int .i64 0, .int .i64 0]) (t := 79) ?_; intro gb525 hg w28 hbox hb; replace HO_6 := aa_ (Kd.R_below (Kd.R_elderB (rr_ HO_6) gb525 (Nat.le_of_eq hg.symm)) hb); have BK525 := aa_ (hbox); have GW525 := gs_ hg; have GE525 := gs_ hg; replace HB := hbs_ hb; have NB515_525 := nl_ hg BK515; have NB525_515 := nr_ hg BK515; replace BK515 := bkb_ BK515 hb; clear hb hbox hg; have hnb29 := NB525_515.out; have hnc29 := NB515_525.out; obtain ⟨hcz30, hfz30⟩ := bcf_ BK525))
        repeat (go_quiet (first | (go_at_call 96; (with_reducible refine (impl_shown.calls _ _ l0 a1 (rd ((rd_T111 l0 a1).f2) x39_2) t521 t522 t523 t524 _ ?side1 ?side2 A25.out).mono ?_); (case side1 => repeat (first | exact (Kd.C_below HR0.out HB.out) | (with_reducible refine Kd.C_alloc ?_ _) | (with_reducible refine Kd.C_drewN ?_ _) | (with_reducible refine Kd.C_drew ?_))); (case side2 => exact HC0.out); rintro e w27 ⟨rfl, hb⟩; replace HO_6 := hob_ HO_6 hb; replace BK515 := bkb_ BK515 hb; replace HB := hbs_ hb; clear hb) | ((with_reducible refine gD_ 9 rfl ?_); refine bx_ (N := 9) (cs := #[.int .i64 0, .int .i64 0, .int .i64 0]) (t := 79) ?_; intro gb525 hg w28 hbox hb; replace HO_6 := aa_ (Kd.R_below (Kd.R_elderB (rr_ HO_6) gb525 (Nat.le_of_eq hg.symm)) hb); have BK525 := aa_ (hbox); have GW525 := gs_ hg; have GE525 := gs_ hg; replace HB := hbs_ hb; have NB515_525 := nl_ hg BK515; have NB525_515 := nr_ hg BK515; replace BK515 := bkb_ BK515 hb; clear hb hbox hg; have hnb29 := NB525_515.out; have hnc29 := NB515_525.out; obtain ⟨hcz30, hfz30⟩ := bcf_ BK525)); go_upto_if 51 with (first | (go_at_call 96; (with_reducible refine (impl_shown.calls _ _ l0 a1 (rd ((rd_T111 l0 a1).f2) x39_2) t521 t522 t523 t524 _ ?side1 ?side2 A25.out).mono ?_); (case side1 => repeat (first | exact (Kd.C_below HR0.out HB.out) | (with_reducible refine Kd.C_alloc ?_ _) | (with_reducible refine Kd.C_drewN ?_ _) | (with_reducible refine Kd.C_drew ?_))); (case side2 => exact HC0.out); rintro e w27 ⟨rfl, hb⟩; replace HO_6 := hob_ HO_6 hb; replace BK515 := bkb_ BK515 hb; replace HB := hbs_ hb; clear hb) | ((with_reducible refine gD_ 9 rfl ?_); refine bx_ (N := 9) (cs := #[.int .i64 0, .int .i64 0, .int .i64 0]) (t := 79) ?_; intro gb525 hg w28 hbox hb; replace HO_6 := aa_ (Kd.R_below (Kd.R_elderB (rr_ HO_6) gb525 (Nat.le_of_eq hg.symm)) hb); have BK525 := aa_ (hbox); have GW525 := gs_ hg; have GE525 := gs_ hg; replace HB := hbs_ hb; have NB515_525 := nl_ hg BK515; have NB525_515 := nr_ hg BK515; replace BK515 := bkb_ BK515 hb; clear hb hbox hg; have hnb29 := NB525_515.out; have hnc29 := NB515_525.out; obtain ⟨hcz30, hfz30⟩ := bcf_ BK525)))
        have n0_ : Aside0 (Kd.R k79 79 (((w28.setCell ⟨gb525, 0, none⟩ (.int .i64 t521)).setCell ⟨gb525, 1, none⟩ (.int .i64 t522)).setCell ⟨gb525, 2, none⟩ (.int .i64 t523)) w.heap.size (fun k_ => k_ ≠ gb525) u6 x6_2) := ⟨by (with_reducible repeat (first | apply Kd.R_alloc | apply Kd.R_drewN | apply Kd.R_drew)); exact Kd.R_mono (fr3_ (Kd.R_mono HO_6.out (fun k_ hk => (⟨hk, hk.2⟩ : _ ∧ k_ ≠ gb525))) (fun _ hk => hk.2)) (fun _ hk => hk.1.2)⟩
        have n1_ : Aside0 ((((w28.setCell ⟨gb525, 0, none⟩ (.int .i64 t521)).setCell ⟨gb525, 1, none⟩ (.int .i64 t522)).setCell ⟨gb525, 2, none⟩ (.int .i64 t523)).heap[gb515]? = some (.cells #[.int .i64 ((rd_T111 l0 a1).f0.f0), .int .i64 ((rd_T111 l0 a1).f0.f1.f0), .int .i64 ((rd_T111 l0 a1).f0.f1.f1), .int .i64 ((rd_T111 l0 a1).f0.f2), .int .i64 ((rd_T111 l0 a1).f0.f3.f0), .int .i64 ((rd_T111 l0 a1).f0.f3.f1), .int .i64 ((rd_T111 l0 a1).f0.f4.f0), .int .i64 ((rd_T111 l0 a1).f0.f4.f1), .int .i64 ((rd_T111 l0 a1).f0.f5), .int .i64 ((rd_T111 l0 a1).f0.f6), .int .i64 ((rd_T111 l0 a1).f1.f0.f0), .int .i64 ((rd_T111 l0 a1).f1.f0.f1), .int .i64 ((rd_T111 l0 a1).f1.f1), .slice (some ad520) ((rd_T111 l0 a1).f2).length c514_13] 111 (0, 0))) := ⟨bk_ BK515⟩
        have n2_ : Aside0 ((((w28.setCell ⟨gb525, 0, none⟩ (.int .i64 t521)).setCell ⟨gb525, 1, none⟩ (.int .i64 t522)).setCell ⟨gb525, 2, none⟩ (.int .i64 t523)).heap[gb525]? = some (.cells #[.int .i64 t521, .int .i64 t522, .int .i64 t523] 79 (0, 0))) := ⟨bk_ BK525⟩
        have n3_ : Aside0 (Below w.heap.size w (((w28.setCell ⟨gb525, 0, none⟩ (.int .i64 t521)).setCell ⟨gb525, 1, none⟩ (.int .i64 t522)).setCell ⟨gb525, 2, none⟩ (.int .i64 t523))) := ⟨bl_⟩
        (try clear HO_6)
        (try clear BK515)
        (try clear BK525)
        (try clear HB)
        generalize (((w28.setCell ⟨gb525, 0, none⟩ (.int .i64 t521)).setCell ⟨gb525, 1, none⟩ (.int .i64 t522)).setCell ⟨gb525, 2, none⟩ (.int .i64 t523)) = w31 at n0_ n1_ n2_ n3_ ⊢
        have HO_6 := n0_
        have BK515 := n1_
        have BK525 := n2_
        have HB := n3_
        clear n0_ n1_ n2_ n3_
        (try simp only [Act.put, sb_, sz_, ss_])
        have H := HC26.out
        clear HC26
        by_cases c32 : t524 = true
        ·subst c32
         replace H := ite_t_ H
         obtain ⟨c33, H⟩ := ifn_ H
         have LMc33 := aa_ c33
         clear c33
         obtain ⟨y526, hy526⟩ : ∃ y_ : List (S79), y_ = (x6_2 ++ [(⟨(⟨t521, t522⟩ : S77), t523⟩ : S79)]) := ⟨_, rfl⟩
         replace H : (impl_StepOk.l0 k2 l0 a1 y526 ((rd_T111 l0 a1).f2) (((rd_T111 l0 a1).f2).length : Int) (wrap64 (x39_2 + 1)) ((rd_T111 l0 a1).f0.f0) ((rd_T111 l0 a1).f0.f1.f0) ((rd_T111 l0 a1).f0.f1.f1) ((rd_T111 l0 a1).f0.f2) ((rd_T111 l0 a1).f0.f3.f0) ((rd_T111 l0 a1).f0.f3.f1) ((rd_T111 l0 a1).f0.f4.f0) ((rd_T111 l0 a1).f0.f4.f1) ((rd_T111 l0 a1).f0.f5) ((rd_T111 l0 a1).f0.f6) ((rd_T111 l0 a1).f1.f0.f0) ((rd_T111 l0 a1).f1.f0.f1) ((rd_T111 l0 a1).f1.f1) ((rd_T111 l0 a1).f2)) = some r := rh_ hy526 H
         have Ny526 := aa_ hy526
         clear hy526
         have H' := aa_ H
         clear H
         have hnb34 := NB525_515.out
         have hnc34 := NB515_525.out
         have hcz35 := blk_cell BK525.out
         have hfz35 := blk_frozen BK525.out
         go_wp2_with (first | ((with_reducible refine gate_builtin (b := .append) (xs := #[.tmp 52, .tmp 54]) rfl ?_); at_builtin; refine Kd.R_append k79 (w0 := w) w.heap.size rfl (.tmp 52) (.tmp 54) 38 79 (.agg #[(.int .i64 0), (.int .i64 0), (.int .i64 0)]) 24 rfl Tryz.underlying38 info79 rfl (by decide) (by omega) u6 x6_2 (⟨(⟨t521, t522⟩ : S77), t523⟩ : S79) [.int .i64 t521, .int .i64 t522, .int .i64 t523] (fun k_ => k_ ≠ gb525) (fun _ => False) rfl rfl ?aP (fun _ hk => hk.elim) ?aF ?aO ?aB ?aS ?aL ?_; (case aP => exact k79_mkM _ _ _ (⟨(⟨t521, t522⟩ : S77), t523⟩ : S79)); (case aB => exact bl_); (case aF => exact (fun k_ hk => Kd.freshB (g := gb525) (o := .cells #[.int .i64 t521, .int .i64 t522, .int .i64 t523] 79 (0, 0)) (bk_ BK525) k_ hk)); (case aO => exact (rr_ HO_6)); (case aS => exact bls_); (case aL => have := LMc33.out; omega); intro v527 w36 ho hb hg hat; rw [← Ny526.out] at ho; replace BK515 := aa_ (blk_grown (g := gb515) (o := .cells #[.int .i64 ((rd_T111 l0 a1).f0.f0), .int .i64 ((rd_T111 l0 a1).f0.f1.f0), .int .i64 ((rd_T111 l0 a1).f0.f1.f1), .int .i64 ((rd_T111 l0 a1).f0.f2), .int .i64 ((rd_T111 l0 a1).f0.f3.f0), .int .i64 ((rd_T111 l0 a1).f0.f3.f1), .int .i64 ((rd_T111 l0 a1).f0.f4.f0), .int .i64 ((rd_T111 l0 a1).f0.f4.f1), .int .i64 ((rd_T111 l0 a1).f0.f5), .int .i64 ((rd_T111 l0 a1).f0.f6), .int .i64 ((rd_T111 l0 a1).f1.f0.f0), .int .i64 ((rd_T111 l0 a1).f1.f0.f1), .int .i64 ((rd_T111 l0 a1).f1.f1), .slice (some ad520) ((rd_T111 l0 a1).f2).length c514_13] 111 (0, 0)) (bk_ BK515) hg (Kd.R_ne HO_6.out BK515.out (by decide))); replace BK525 := aa_ (blk_grown (g := gb525) (o := .cells #[.int .i64 t521, .int .i64 t522, .int .i64 t523] 79 (0, 0)) (bk_ BK525) hg (Kd.R_away HO_6.out (fun _ hk => hk))); replace HB := aa_ (hb); have HO528 := aa_ (ho); clear HO_6; clear ho hb hg hat))
         repeat (go_quiet (first | ((with_reducible refine gate_builtin (b := .append) (xs := #[.tmp 52, .tmp 54]) rfl ?_); at_builtin; refine Kd.R_append k79 (w0 := w) w.heap.size rfl (.tmp 52) (.tmp 54) 38 79 (.agg #[(.int .i64 0), (.int .i64 0), (.int .i64 0)]) 24 rfl Tryz.underlying38 info79 rfl (by decide) (by omega) u6 x6_2 (⟨(⟨t521, t522⟩ : S77), t523⟩ : S79) [.int .i64 t521, .int .i64 t522, .int .i64 t523] (fun k_ => k_ ≠ gb525) (fun _ => False) rfl rfl ?aP (fun _ hk => hk.elim) ?aF ?aO ?aB ?aS ?aL ?_; (case aP => exact k79_mkM _ _ _ (⟨(⟨t521, t522⟩ : S77), t523⟩ : S79)); (case aB => exact bl_); (case aF => exact (fun k_ hk => Kd.freshB (g := gb525) (o := .cells #[.int .i64 t521, .int .i64 t522, .int .i64 t523] 79 (0, 0)) (bk_ BK525) k_ hk)); (case aO => exact (rr_ HO_6)); (case aS => exact bls_); (case aL => have := LMc33.out; omega); intro v527 w36 ho hb hg hat; rw [← Ny526.out] at ho; replace BK515 := aa_ (blk_grown (g := gb515) (o := .cells #[.int .i64 ((rd_T111 l0 a1).f0.f0), .int .i64 ((rd_T111 l0 a1).f0.f1.f0), .int .i64 ((rd_T111 l0 a1).f0.f1.f1), .int .i64 ((rd_T111 l0 a1).f0.f2), .int .i64 ((rd_T111 l0 a1).f0.f3.f0), .int .i64 ((rd_T111 l0 a1).f0.f3.f1), .int .i64 ((rd_T111 l0 a1).f0.f4.f0), .int .i64 ((rd_T111 l0 a1).f0.f4.f1), .int .i64 ((rd_T111 l0 a1).f0.f5), .int .i64 ((rd_T111 l0 a1).f0.f6), .int .i64 ((rd_T111 l0 a1).f1.f0.f0), .int .i64 ((rd_T111 l0 a1).f1.f0.f1), .int .i64 ((rd_T111 l0 a1).f1.f1), .slice (some ad520) ((rd_T111 l0 a1).f2).length c514_13] 111 (0, 0)) (bk_ BK515) hg (Kd.R_ne HO_6.out BK515.out (by decide))); replace BK525 := aa_ (blk_grown (g := gb525) (o := .cells #[.int .i64 t521, .int .i64 t522, .int .i64 t523] 79 (0, 0)) (bk_ BK525) hg (Kd.R_away HO_6.out (fun _ hk => hk))); replace HB := aa_ (hb); have HO528 := aa_ (ho); clear HO_6; clear ho hb hg hat)); try go_wp2_with (first | ((with_reducible refine gate_builtin (b := .append) (xs := #[.tmp 52, .tmp 54]) rfl ?_); at_builtin; refine Kd.R_append k79 (w0 := w) w.heap.size rfl (.tmp 52) (.tmp 54) 38 79 (.agg #[(.int .i64 0), (.int .i64 0), (.int .i64 0)]) 24 rfl Tryz.underlying38 info79 rfl (by decide) (by omega) u6 x6_2 (⟨(⟨t521, t522⟩ : S77), t523⟩ : S79) [.int .i64 t521, .int .i64 t522, .int .i64 t523] (fun k_ => k_ ≠ gb525) (fun _ => False) rfl rfl ?aP (fun _ hk => hk.elim) ?aF ?aO ?aB ?aS ?aL ?_; (case aP => exact k79_mkM _ _ _ (⟨(⟨t521, t522⟩ : S77), t523⟩ : S79)); (case aB => exact bl_); (case aF => exact (fun k_ hk => Kd.freshB (g := gb525) (o := .cells #[.int .i64 t521, .int .i64 t522, .int .i64 t523] 79 (0, 0)) (bk_ BK525) k_ hk)); (case aO => exact (rr_ HO_6)); (case aS => exact bls_); (case aL => have := LMc33.out; omega); intro v527 w36 ho hb hg hat; rw [← Ny526.out] at ho; replace BK515 := aa_ (blk_grown (g := gb515) (o := .cells #[.int .i64 ((rd_T111 l0 a1).f0.f0), .int .i64 ((rd_T111 l0 a1).f0.f1.f0), .int .i64 ((rd_T111 l0 a1).f0.f1.f1), .int .i64 ((rd_T111 l0 a1).f0.f2), .int .i64 ((rd_T111 l0 a1).f0.f3.f0), .int .i64 ((rd_T111 l0 a1).f0.f3.f1), .int .i64 ((rd_T111 l0 a1).f0.f4.f0), .int .i64 ((rd_T111 l0 a1).f0.f4.f1), .int .i64 ((rd_T111 l0 a1).f0.f5), .int .i64 ((rd_T111 l0 a1).f0.f6), .int .i64 ((rd_T111 l0 a1).f1.f0.f0), .int .i64 ((rd_T111 l0 a1).f1.f0.f1), .int .i64 ((rd_T111 l0 a1).f1.f1), .slice (some ad520) ((rd_T111 l0 a1).f2).length c514_13] 111 (0, 0)) (bk_ BK515) hg (Kd.R_ne HO_6.out BK515.out (by decide))); replace BK525 := aa_ (blk_grown (g := gb525) (o := .cells #[.int .i64 t521, .int .i64 t522, .int .i64 t523] 79 (0, 0)) (bk_ BK525) hg (Kd.R_away HO_6.out (fun _ hk => hk))); replace HB := aa_ (hb); have HO528 := aa_ (ho); clear HO_6; clear ho hb hg hat)))
         go_roundg k2
         case measure => have := HJ7.out; have := HK2.out; omega
         case rel => exact ⟨(y526), (wrap64 (x39_2 + 1)), rf_, H', ⟨by have := HJ7.out; have := HK2.out; omega⟩, ⟨by (with_reducible repeat (first | apply Kd.R_alloc | apply Kd.R_drewN | apply Kd.R_drew)); exact Kd.R_mono HO528.out (fun _ hk => trivial)⟩, ⟨bk_ BK515⟩, ⟨bl_⟩⟩
        ·replace c32 := Bool.eq_false_iff.mpr c32
         subst c32
         replace H := ite_f_ H
         obtain rfl := Option.some.inj H
         go_wp2
         repeat (go_quiet (fail); try go_wp2)
         go_ret
         exact ⟨eq_, bl_⟩
       ·rw [if_neg c22] at H
        have c22b0 : decide (x39_2 < (((rd_T111 l0 a1).f2).length : Int)) = false := decide_eq_false c22
        clear c22
        by_cases c37 : ((rd_T111 l0 a1).f0.f0) = 1
        ·rw [if_pos c37] at H
         have c37b0 : (((rd_T111 l0 a1).f0.f0) == 1) = true := beq_iff_eq.mpr c37
         have c37b1 : (((rd_T111 l0 a1).f0.f0) != 1) = false := bne_eq_false_iff_eq.mpr c37
         clear c37
         by_cases c38 : (x6_2.length : Int) = 0
         ·rw [if_pos c38] at H
          have c38b0 : ((x6_2.length : Int) == 0) = true := beq_iff_eq.mpr c38
          have c38b1 : ((x6_2.length : Int) != 0) = false := bne_eq_false_iff_eq.mpr c38
          clear c38
          obtain rfl := Option.some.inj H
          have hcz39 := blk_cell BK515.out
          have hfz39 := blk_frozen BK515.out
          obtain ⟨Ao40, co40, eo40⟩ := Kd.R_slice HO_6.out
          subst eo40
          go_wp2
          repeat (go_quiet (fail); try go_wp2)
          go_ret
          exact ⟨eq_, bl_⟩
         ·rw [if_neg c38] at H
          have c38b0 : ((x6_2.length : Int) == 0) = false := beq_eq_false_iff_ne.mpr c38
          have c38b1 : ((x6_2.length : Int) != 0) = true := bne_iff_ne.mpr c38
          have c38b2 : ¬ (x6_2 = []) := fun h_ => c38 (by rw [h_]; rfl)
          obtain rfl := Option.some.inj H
          have hcz41 := blk_cell BK515.out
          have hfz41 := blk_frozen BK515.out
          obtain ⟨Ao42, co42, eo42⟩ := Kd.R_slice HO_6.out
          subst eo42
          go_wp2
          repeat (go_quiet (fail); try go_wp2)
          go_ret
          exact ⟨eq_, bl_⟩
        ·rw [if_neg c37] at H
         have c37b0 : (((rd_T111 l0 a1).f0.f0) == 1) = false := beq_eq_false_iff_ne.mpr c37
         have c37b1 : (((rd_T111 l0 a1).f0.f0) != 1) = true := bne_iff_ne.mpr c37
         by_cases c43 : ((rd_T111 l0 a1).f0.f0) = 2
         ·rw [if_pos c43] at H
          have c43b0 : (((rd_T111 l0 a1).f0.f0) == 2) = true := beq_iff_eq.mpr c43
          have c43b1 : (((rd_T111 l0 a1).f0.f0) != 2) = false := bne_eq_false_iff_eq.mpr c43
          clear c43
          by_cases c44 : (x6_2.length : Int) = 1
          ·rw [if_pos c44] at H
           have c44b0 : ((x6_2.length : Int) == 1) = true := beq_iff_eq.mpr c44
           have c44b1 : ((x6_2.length : Int) != 1) = false := bne_eq_false_iff_eq.mpr c44
           clear c44
           obtain ⟨c45, H⟩ := ifn_ H
           have c45b0 : decide (0 < (x6_2.length : Int)) = true := decide_eq_true c45
           have c45b1 : decide (0 < x6_2.length) = true := decide_eq_true (by omega)
           clear c45
           obtain rfl := Option.some.inj H
           have hcz46 := blk_cell BK515.out
           have hfz46 := blk_frozen BK515.out
           obtain ⟨Ao47, co47, eo47⟩ := Kd.R_slice HO_6.out
           subst eo47
           have p529 : 0 ≤ (0 : Int) := (by omega)
           have q529 : 0 < (x6_2.length : Int) := od_
           obtain ⟨ad529, e529, hx529_0, hx529_1, hx529_2⟩ := at_T79 (Kd.R_reads' HO_6.out).2.2 0 p529 q529
           cases e529
           have qi529 : (0 < x6_2.length) = True := eq_true (by omega)
           (try rw [show ((0 : Int)).toNat = 0 from rfl] at hx529_0)
           (try rw [show 0 * 3 = 0 from rfl] at hx529_0)
           (try rw [Addr.add_zero'] at hx529_0)
           (try rw [show ((0 : Int)).toNat = 0 from rfl] at hx529_1)
           (try rw [show 0 * 3 = 0 from rfl] at hx529_1)
           (try rw [Addr.add_zero'] at hx529_1)
           (try rw [show ((0 : Int)).toNat = 0 from rfl] at hx529_2)
           (try rw [show 0 * 3 = 0 from rfl] at hx529_2)
           (try rw [Addr.add_zero'] at hx529_2)
           replace p529 := eq_true p529
           replace q529 := eq_true q529
           go_wp2
           repeat (go_quiet (fail); try go_wp2)
           go_ret
           exact ⟨eq_, bl_⟩
          ·rw [if_neg c44] at H
           have c44b0 : ((x6_2.length : Int) == 1) = false := beq_eq_false_iff_ne.mpr c44
           have c44b1 : ((x6_2.length : Int) != 1) = true := bne_iff_ne.mpr c44
           obtain rfl := Option.some.inj H
           have hcz48 := blk_cell BK515.out
           have hfz48 := blk_frozen BK515.out
           obtain ⟨Ao49, co49, eo49⟩ := Kd.R_slice HO_6.out
           subst eo49
           go_wp2
           repeat (go_quiet (fail); try go_wp2)
           go_ret
           exact ⟨eq_, bl_⟩
         ·rw [if_neg c43] at H
          have c43b0 : (((rd_T111 l0 a1).f0.f0) == 2) = false := beq_eq_false_iff_ne.mpr c43
          have c43b1 : (((rd_T111 l0 a1).f0.f0) != 2) = true := bne_iff_ne.mpr c43
          by_cases c50 : ((rd_T111 l0 a1).f0.f0) = 3
          ·rw [if_pos c50] at H
           have c50b0 : (((rd_T111 l0 a1).f0.f0) == 3) = true := beq_iff_eq.mpr c50
           have c50b1 : (((rd_T111 l0 a1).f0.f0) != 3) = false := bne_eq_false_iff_eq.mpr c50
           clear c50
           by_cases c51 : (x6_2.length : Int) = 2
           ·rw [if_pos c51] at H
            have c51b0 : ((x6_2.length : Int) == 2) = true := beq_iff_eq.mpr c51
            have c51b1 : ((x6_2.length : Int) != 2) = false := bne_eq_false_iff_eq.mpr c51
            clear c51
            obtain ⟨c52, H⟩ := ifn_ H
            have c52b0 : decide (0 < (x6_2.length : Int)) = true := decide_eq_true c52
            have c52b1 : decide (0 < x6_2.length) = true := decide_eq_true (by omega)
            clear c52
            by_cases c53 : (((rd_T79 x6_2 0).f0.f0) == ((rd_T111 l0 a1).f0.f3.f0) && (((rd_T79 x6_2 0).f0.f1) == ((rd_T111 l0 a1).f0.f3.f1))) = true
            ·rw [if_pos c53] at H
             have c53b0 : (((rd_T79 x6_2 0).f0.f0) == ((rd_T111 l0 a1).f0.f3.f0) && (((rd_T79 x6_2 0).f0.f1) == ((rd_T111 l0 a1).f0.f3.f1))) = true := c53
             (try (have c53b1 : decide (((rd_T79 x6_2 0).f0.f0) = ((rd_T111 l0 a1).f0.f3.f0) && (((rd_T79 x6_2 0).f0.f1) == ((rd_T111 l0 a1).f0.f3.f1))) = true := by simpa using c53))
             (try (have c53b2 : (((rd_T79 x6_2 0).f0.f0) == ((rd_T111 l0 a1).f0.f3.f0) && (((rd_T79 x6_2 0).f0.f1) == ((rd_T111 l0 a1).f0.f3.f1))) = true := by simpa using c53))
             clear c53
             obtain ⟨c54, H⟩ := ifn_ H
             have c54b0 : decide (1 < (x6_2.length : Int)) = true := decide_eq_true c54
             have c54b1 : decide (1 < x6_2.length) = true := decide_eq_true (by omega)
             clear c54
             obtain rfl := Option.some.inj H
             have hcz55 := blk_cell BK515.out
             have hfz55 := blk_frozen BK515.out
             obtain ⟨Ao56, co56, eo56⟩ := Kd.R_slice HO_6.out
             subst eo56
             have p530 : 0 ≤ (0 : Int) := (by omega)
             have q530 : 0 < (x6_2.length : Int) := od_
             obtain ⟨ad530, e530, hx530_0, hx530_1, hx530_2⟩ := at_T79 (Kd.R_reads' HO_6.out).2.2 0 p530 q530
             cases e530
             have qi530 : (0 < x6_2.length) = True := eq_true (by omega)
             (try rw [show ((0 : Int)).toNat = 0 from rfl] at hx530_0)
             (try rw [show 0 * 3 = 0 from rfl] at hx530_0)
             (try rw [Addr.add_zero'] at hx530_0)
             (try rw [show ((0 : Int)).toNat = 0 from rfl] at hx530_1)
             (try rw [show 0 * 3 = 0 from rfl] at hx530_1)
             (try rw [Addr.add_zero'] at hx530_1)
             (try rw [show ((0 : Int)).toNat = 0 from rfl] at hx530_2)
             (try rw [show 0 * 3 = 0 from rfl] at hx530_2)
             (try rw [Addr.add_zero'] at hx530_2)
             replace p530 := eq_true p530
             replace q530 := eq_true q530
             have p531 : 0 ≤ (1 : Int) := (by omega)
             have q531 : 1 < (x6_2.length : Int) := od_
             obtain ⟨ad531, e531, hx531_0, hx531_1, hx531_2⟩ := at_T79 (Kd.R_reads' HO_6.out).2.2 1 p531 q531
             obtain rfl : ad530 = ad531 := (by injection e531)
             (try simp only [show (1 : Int).toNat = 1 from rfl, Nat.reduceMul, Nat.reduceEqDiff, Go.Addr.add, ↓reduceIte] at hx531_0)
             (try simp only [show (1 : Int).toNat = 1 from rfl, Nat.reduceMul, Nat.reduceEqDiff, Go.Addr.add, ↓reduceIte] at hx531_1)
             (try simp only [show (1 : Int).toNat = 1 from rfl, Nat.reduceMul, Nat.reduceEqDiff, Go.Addr.add, ↓reduceIte] at hx531_2)
             have qi531 : (1 < x6_2.length) = True := eq_true (by omega)
             (try rw [show ((1 : Int)).toNat = 1 from rfl] at hx531_0)
             (try rw [show 1 * 3 = 3 from rfl] at hx531_0)
             (try rw [show ((1 : Int)).toNat = 1 from rfl] at hx531_1)
             (try rw [show 1 * 3 = 3 from rfl] at hx531_1)
             (try rw [show ((1 : Int)).toNat = 1 from rfl] at hx531_2)
             (try rw [show 1 * 3 = 3 from rfl] at hx531_2)
             replace p531 := eq_true p531
             replace q531 := eq_true q531
             have p532 : 0 ≤ (0 : Int) := (by omega)
             have q532 : 0 < (x6_2.length : Int) := od_
             obtain ⟨ad532, e532, hx532_0, hx532_1, hx532_2⟩ := at_T79 (Kd.R_reads' HO_6.out).2.2 0 p532 q532
             obtain rfl : ad530 = ad532 := (by injection e532)
             have qi532 : (0 < x6_2.length) = True := eq_true (by omega)
             (try rw [show ((0 : Int)).toNat = 0 from rfl] at hx532_0)
             (try rw [show 0 * 3 = 0 from rfl] at hx532_0)
             (try rw [Addr.add_zero'] at hx532_0)
             (try rw [show ((0 : Int)).toNat = 0 from rfl] at hx532_1)
             (try rw [show 0 * 3 = 0 from rfl] at hx532_1)
             (try rw [Addr.add_zero'] at hx532_1)
             (try rw [show ((0 : Int)).toNat = 0 from rfl] at hx532_2)
             (try rw [show 0 * 3 = 0 from rfl] at hx532_2)
             (try rw [Addr.add_zero'] at hx532_2)
             replace p532 := eq_true p532
             replace q532 := eq_true q532
             go_wp2
             repeat (go_quiet (fail); try go_wp2)
             go_ret
             exact ⟨eq_, bl_⟩
            ·rw [if_neg c53] at H
             have c53b0 : (((rd_T79 x6_2 0).f0.f0) == ((rd_T111 l0 a1).f0.f3.f0) && (((rd_T79 x6_2 0).f0.f1) == ((rd_T111 l0 a1).f0.f3.f1))) = false := by simpa using c53
             (try (have c53b1 : decide (((rd_T79 x6_2 0).f0.f0) = ((rd_T111 l0 a1).f0.f3.f0) && (((rd_T79 x6_2 0).f0.f1) == ((rd_T111 l0 a1).f0.f3.f1))) = false := by simpa using c53))
             (try (have c53b2 : (((rd_T79 x6_2 0).f0.f0) == ((rd_T111 l0 a1).f0.f3.f0) && (((rd_T79 x6_2 0).f0.f1) == ((rd_T111 l0 a1).f0.f3.f1))) = false := by simpa using c53))
             (try (have c53b3 : ¬ (((rd_T79 x6_2 0).f0.f0) = ((rd_T111 l0 a1).f0.f3.f0) && (((rd_T79 x6_2 0).f0.f1) == ((rd_T111 l0 a1).f0.f3.f1))) := by simpa using c53))
             clear c53
             obtain rfl := Option.some.inj H
             have hcz57 := blk_cell BK515.out
             have hfz57 := blk_frozen BK515.out
             obtain ⟨Ao58, co58, eo58⟩ := Kd.R_slice HO_6.out
             subst eo58
             have p530 : 0 ≤ (0 : Int) := (by omega)
             have q530 : 0 < (x6_2.length : Int) := od_
             obtain ⟨ad530, e530, hx530_0, hx530_1, hx530_2⟩ := at_T79 (Kd.R_reads' HO_6.out).2.2 0 p530 q530
             cases e530
             have qi530 : (0 < x6_2.length) = True := eq_true (by omega)
             (try rw [show ((0 : Int)).toNat = 0 from rfl] at hx530_0)
             (try rw [show 0 * 3 = 0 from rfl] at hx530_0)
             (try rw [Addr.add_zero'] at hx530_0)
             (try rw [show ((0 : Int)).toNat = 0 from rfl] at hx530_1)
             (try rw [show 0 * 3 = 0 from rfl] at hx530_1)
             (try rw [Addr.add_zero'] at hx530_1)
             (try rw [show ((0 : Int)).toNat = 0 from rfl] at hx530_2)
             (try rw [show 0 * 3 = 0 from rfl] at hx530_2)
             (try rw [Addr.add_zero'] at hx530_2)
             replace p530 := eq_true p530
             replace q530 := eq_true q530
             go_wp2
             repeat (go_quiet (fail); try go_wp2)
             go_ret
             exact ⟨eq_, bl_⟩
           ·rw [if_neg c51] at H
            have c51b0 : ((x6_2.length : Int) == 2) = false := beq_eq_false_iff_ne.mpr c51
            have c51b1 : ((x6_2.length : Int) != 2) = true := bne_iff_ne.mpr c51
            obtain rfl := Option.some.inj H
            have hcz59 := blk_cell BK515.out
            have hfz59 := blk_frozen BK515.out
            obtain ⟨Ao60, co60, eo60⟩ := Kd.R_slice HO_6.out
            subst eo60
            go_wp2
            repeat (go_quiet (fail); try go_wp2)
            go_ret
            exact ⟨eq_, bl_⟩
          ·rw [if_neg c50] at H
           have c50b0 : (((rd_T111 l0 a1).f0.f0) == 3) = false := beq_eq_false_iff_ne.mpr c50
           have c50b1 : (((rd_T111 l0 a1).f0.f0) != 3) = true := bne_iff_ne.mpr c50
           by_cases c61 : (x6_2.length : Int) = 2
           ·rw [if_pos c61] at H
            have c61b0 : ((x6_2.length : Int) == 2) = true := beq_iff_eq.mpr c61
            have c61b1 : ((x6_2.length : Int) != 2) = false := bne_eq_false_iff_eq.mpr c61
            clear c61
            obtain ⟨c62, H⟩ := ifn_ H
            have c62b0 : decide (0 < (x6_2.length : Int)) = true := decide_eq_true c62
            have c62b1 : decide (0 < x6_2.length) = true := decide_eq_true (by omega)
            clear c62
            by_cases c63 : ((((rd_T79 x6_2 0).f0.f0) == ((rd_T111 l0 a1).f0.f3.f0) && (((rd_T79 x6_2 0).f0.f1) == ((rd_T111 l0 a1).f0.f3.f1))) && (((rd_T79 x6_2 0).f1) == ((rd_T111 l0 a1).f1.f1))) = true
            ·rw [if_pos c63] at H
             have c63b0 : ((((rd_T79 x6_2 0).f0.f0) == ((rd_T111 l0 a1).f0.f3.f0) && (((rd_T79 x6_2 0).f0.f1) == ((rd_T111 l0 a1).f0.f3.f1))) && (((rd_T79 x6_2 0).f1) == ((rd_T111 l0 a1).f1.f1))) = true := c63
             clear c63
             obtain ⟨c64, H⟩ := ifn_ H
             have c64b0 : decide (1 < (x6_2.length : Int)) = true := decide_eq_true c64
             have c64b1 : decide (1 < x6_2.length) = true := decide_eq_true (by omega)
             clear c64
             obtain rfl := Option.some.inj H
             have hcz65 := blk_cell BK515.out
             have hfz65 := blk_frozen BK515.out
             obtain ⟨Ao66, co66, eo66⟩ := Kd.R_slice HO_6.out
             subst eo66
             have p533 : 0 ≤ (0 : Int) := (by omega)
             have q533 : 0 < (x6_2.length : Int) := od_
             obtain ⟨ad533, e533, hx533_0, hx533_1, hx533_2⟩ := at_T79 (Kd.R_reads' HO_6.out).2.2 0 p533 q533
             cases e533
             have qi533 : (0 < x6_2.length) = True := eq_true (by omega)
             (try rw [show ((0 : Int)).toNat = 0 from rfl] at hx533_0)
             (try rw [show 0 * 3 = 0 from rfl] at hx533_0)
             (try rw [Addr.add_zero'] at hx533_0)
             (try rw [show ((0 : Int)).toNat = 0 from rfl] at hx533_1)
             (try rw [show 0 * 3 = 0 from rfl] at hx533_1)
             (try rw [Addr.add_zero'] at hx533_1)
             (try rw [show ((0 : Int)).toNat = 0 from rfl] at hx533_2)
             (try rw [show 0 * 3 = 0 from rfl] at hx533_2)
             (try rw [Addr.add_zero'] at hx533_2)
             replace p533 := eq_true p533
             replace q533 := eq_true q533
             have p534 : 0 ≤ (1 : Int) := (by omega)
             have q534 : 1 < (x6_2.length : Int) := od_
             obtain ⟨ad534, e534, hx534_0, hx534_1, hx534_2⟩ := at_T79 (Kd.R_reads' HO_6.out).2.2 1 p534 q534
             obtain rfl : ad533 = ad534 := (by injection e534)
             (try simp only [show (1 : Int).toNat = 1 from rfl, Nat.reduceMul, Nat.reduceEqDiff, Go.Addr.add, ↓reduceIte] at hx534_0)
             (try simp only [show (1 : Int).toNat = 1 from rfl, Nat.reduceMul, Nat.reduceEqDiff, Go.Addr.add, ↓reduceIte] at hx534_1)
             (try simp only [show (1 : Int).toNat = 1 from rfl, Nat.reduceMul, Nat.reduceEqDiff, Go.Addr.add, ↓reduceIte] at hx534_2)
             have qi534 : (1 < x6_2.length) = True := eq_true (by omega)
             (try rw [show ((1 : Int)).toNat = 1 from rfl] at hx534_0)
             (try rw [show 1 * 3 = 3 from rfl] at hx534_0)
             (try rw [show ((1 : Int)).toNat = 1 from rfl] at hx534_1)
             (try rw [show 1 * 3 = 3 from rfl] at hx534_1)
             (try rw [show ((1 : Int)).toNat = 1 from rfl] at hx534_2)
             (try rw [show 1 * 3 = 3 from rfl] at hx534_2)
             replace p534 := eq_true p534
             replace q534 := eq_true q534
             go_wp2
             repeat (go_quiet (fail); try go_wp2)
             go_ret
             exact ⟨eq_, bl_⟩
            ·rw [if_neg c63] at H
             have c63b0 : ((((rd_T79 x6_2 0).f0.f0) == ((rd_T111 l0 a1).f0.f3.f0) && (((rd_T79 x6_2 0).f0.f1) == ((rd_T111 l0 a1).f0.f3.f1))) && (((rd_T79 x6_2 0).f1) == ((rd_T111 l0 a1).f1.f1))) = false := by simpa using c63
             clear c63
             obtain rfl := Option.some.inj H
             have hcz67 := blk_cell BK515.out
             have hfz67 := blk_frozen BK515.out
             obtain ⟨Ao68, co68, eo68⟩ := Kd.R_slice HO_6.out
             subst eo68
             have p533 : 0 ≤ (0 : Int) := (by omega)
             have q533 : 0 < (x6_2.length : Int) := od_
             obtain ⟨ad533, e533, hx533_0, hx533_1, hx533_2⟩ := at_T79 (Kd.R_reads' HO_6.out).2.2 0 p533 q533
             cases e533
             have qi533 : (0 < x6_2.length) = True := eq_true (by omega)
             (try rw [show ((0 : Int)).toNat = 0 from rfl] at hx533_0)
             (try rw [show 0 * 3 = 0 from rfl] at hx533_0)
             (try rw [Addr.add_zero'] at hx533_0)
             (try rw [show ((0 : Int)).toNat = 0 from rfl] at hx533_1)
             (try rw [show 0 * 3 = 0 from rfl] at hx533_1)
             (try rw [Addr.add_zero'] at hx533_1)
             (try rw [show ((0 : Int)).toNat = 0 from rfl] at hx533_2)
             (try rw [show 0 * 3 = 0 from rfl] at hx533_2)
             (try rw [Addr.add_zero'] at hx533_2)
             replace p533 := eq_true p533
             replace q533 := eq_true q533
             go_wp2
             repeat (go_quiet (fail); try go_wp2)
             go_ret
             exact ⟨eq_, bl_⟩
           ·rw [if_neg c61] at H
            have c61b0 : ((x6_2.length : Int) == 2) = false := beq_eq_false_iff_ne.mpr c61
            have c61b1 : ((x6_2.length : Int) != 2) = true := bne_iff_ne.mpr c61
            obtain rfl := Option.some.inj H
            have hcz69 := blk_cell BK515.out
            have hfz69 := blk_frozen BK515.out
            obtain ⟨Ao70, co70, eo70⟩ := Kd.R_slice HO_6.out
            subst eo70
            go_wp2
            repeat (go_quiet (fail); try go_wp2)
            go_ret
            exact ⟨eq_, bl_⟩
 ·replace c5 := Bool.eq_false_iff.mpr c5
  subst c5
  replace H := ite_f_ H
  obtain rfl := Option.some.inj H
  go_wp2
  repeat (go_quiet (fail); try go_wp2)
  go_ret
  exact ⟨eq_, bl_⟩
def impl_ProofOk.l0 : Nat → List (S111) → Int → Int → Int → Int → Int → Option (Bool)
 | 0, _, _, _, _, _, _ => none
 | k + 1, x0, x2, x13, x14, x536000, x536001 => if x14 < x13 then ((impl_StepOk.f k x0 x14).bind fun t537 => (if t537 = true then (impl_ProofOk.l0 k x0 x2 x13 (wrap64 (x14 + 1)) x536000 x536001) else (some false))) else (if 0 ≤ (wrap64 ((x0.length : Int) - 1)) then (if (wrap64 ((x0.length : Int) - 1)) < (x0.length : Int) then (some ((((rd_T111 x0 (wrap64 ((x0.length : Int) - 1))).f1.f0.f0) == x536000 && (((rd_T111 x0 (wrap64 ((x0.length : Int) - 1))).f1.f0.f1) == x536001)) && (((rd_T111 x0 (wrap64 ((x0.length : Int) - 1))).f1.f1) == x2))) else (none)) else (none))
def impl_ProofOk.f (k : Nat) (l0 : List (S111)) (a1_0 : Int) (a1_1 : Int) (a2 : Int) : Option (Bool) := (impl_in.f (l0.length : Int) 1 200).bind fun t536 => (if t536 = true then (impl_ProofOk.l0 k l0 a2 (l0.length : Int) 0 a1_0 a1_1) else (some false))
set_option maxHeartbeats 8000000 in
set_option maxRecDepth 100000 in
theorem impl_ProofOk.calls (k : Nat) (A0 : Option Addr) (c0 : Nat) (l0 : List (S111)) (a1_0 : Int) (a1_1 : Int) (a2 : Int) (r : Bool) (w : World) (hr0 : Kd.C k111 w A0 l0.length l0) (hc0 : l0.length ≤ c0) (h : impl_ProofOk.f k l0 a1_0 a1_1 a2 = some r) :
  Calls Tryz.prog 73 #[.slice A0 l0.length c0, .agg #[.int .i64 a1_0, .int .i64 a1_1], .int .i64 a2] w fun e w' => e = .returned (.bool r) ∧ Below w.heap.size w w' := by
 have hu77 := Tryz.underlying77
 have hu79 := Tryz.underlying79
 have HR0 := aa_ hr0
 have HC0 := aa_ hc0
 clear hr0 hc0
 have HB := aa_ (Below.refl w.heap.size w)
 have H : ((impl_in.f (l0.length : Int) 1 200).bind fun t536 => (if t536 = true then (impl_ProofOk.l0 k l0 a2 (l0.length : Int) 0 a1_0 a1_1) else (some false))) = some r := h
 clear h
 obtain ⟨t536, A4, H⟩ := bindE_ H
 have HC5 := aa_ H
 clear H
 go_enter Tryz.func73, Tryz.ntmps73
 go_upto_if 11 with (first | ((with_reducible refine gD_ 4 rfl ?_); refine bx_ (N := 4) (cs := #[.int .i64 a1_0, .int .i64 a1_1]) (t := 77) ?_; intro gb535 hg w6 hbox hb; have BK535 := aa_ (hbox); have GW535 := gs_ hg; have GE535 := gs_ hg; replace HB := hbs_ hb; clear hb hbox hg) | (go_at_call 41; (with_reducible refine (impl_in.calls (l0.length : Int) 1 200 t536 _ A4.out).mono ?_); rintro e w' ⟨rfl, ⟨nd, rfl⟩⟩; (try first | exact ⟨rfl, _, World.drewN_drewN _ _ _⟩ | exact ⟨rfl, _, Eq.trans (World.drewN_drewN _ _ _) (congrArg (World.drewN _) (Nat.add_assoc _ _ _))⟩)))
 repeat (go_quiet (first | ((with_reducible refine gD_ 4 rfl ?_); refine bx_ (N := 4) (cs := #[.int .i64 a1_0, .int .i64 a1_1]) (t := 77) ?_; intro gb535 hg w6 hbox hb; have BK535 := aa_ (hbox); have GW535 := gs_ hg; have GE535 := gs_ hg; replace HB := hbs_ hb; clear hb hbox hg) | (go_at_call 41; (with_reducible refine (impl_in.calls (l0.length : Int) 1 200 t536 _ A4.out).mono ?_); rintro e w' ⟨rfl, ⟨nd, rfl⟩⟩; (try first | exact ⟨rfl, _, World.drewN_drewN _ _ _⟩ | exact ⟨rfl, _, Eq.trans (World.drewN_drewN _ _ _) (congrArg (World.drewN _) (Nat.add_assoc _ _ _))⟩))); go_upto_if 11 with (first | ((with_reducible refine gD_ 4 rfl ?_); refine bx_ (N := 4) (cs := #[.int .i64 a1_0, .int .i64 a1_1]) (t := 77) ?_; intro gb535 hg w6 hbox hb; have BK535 := aa_ (hbox); have GW535 := gs_ hg; have GE535 := gs_ hg; replace HB := hbs_ hb; clear hb hbox hg) | (go_at_call 41; (with_reducible refine (impl_in.calls (l0.length : Int) 1 200 t536 _ A4.out).mono ?_); rintro e w' ⟨rfl, ⟨nd, rfl⟩⟩; (try first | exact ⟨rfl, _, World.drewN_drewN _ _ _⟩ | exact ⟨rfl, _, Eq.trans (World.drewN_drewN _ _ _) (congrArg (World.drewN _) (Nat.add_assoc _ _ _))⟩))))
 (try simp only [Act.put, sb_, sz_, ss_])
 have H := HC5.out
 clear HC5
 by_cases c7 : t536 = true
 ·subst c7
  replace H := ite_t_ H
  have H' := aa_ H
  clear H
  go_wp2
  repeat (go_quiet (fail); try go_wp2)
  go_loopg [14] k (fun kq v14 w' => ∃ (x14_1 : Int), v14 = .int .i64 x14_1 ∧ Aside0 (impl_ProofOk.l0 kq l0 a2 (l0.length : Int) x14_1 a1_0 a1_1 = some r) ∧ Aside0 (kq ≤ k) ∧ Aside0 (w'.heap[gb535]? = some (.cells #[.int .i64 a1_0, .int .i64 a1_1] 77 (0, 0))) ∧ Aside0 (Below w.heap.size w w'))
  case atStart => exact ⟨(0), rf_, H', ⟨Nat.le_refl _⟩, ⟨bk_ BK535⟩, ⟨bl_⟩⟩
  case round =>
   clear H'
   try clear p2
   obtain ⟨x14_1, rfl, HA, HK1, BK535, HB⟩ := hrel
   cases gk with
   | zero => exact absurd HA.out (by simp [impl_ProofOk.l0])
   | succ k1 =>
    have H := HA.out
    clear HA
    simp only [impl_ProofOk.l0] at H
    by_cases c8 : x14_1 < (l0.length : Int)
    ·rw [if_pos c8] at H
     have c8b0 : decide (x14_1 < (l0.length : Int)) = true := decide_eq_true c8
     clear c8
     (first | rw [c8b0] | (simp only [i64_w, i32_w]; rw [c8b0]) | (have cz_ := c8b0; simp only [Int.ofNat_lt, Int.ofNat_le, gt_iff_lt, ge_iff_le] at cz_; rw [cz_]; clear cz_) | skip)
     obtain ⟨t537, A9, H⟩ := bindE_ H
     have HC10 := aa_ H
     clear H
     go_upto_if 20 with (first | (go_at_call 88; (with_reducible refine (impl_StepOk.calls k1 _ _ l0 x14_1 t537 _ ?side1 ?side2 A9.out).mono ?_); (case side1 => repeat (first | exact (Kd.C_below HR0.out HB.out) | (with_reducible refine Kd.C_alloc ?_ _) | (with_reducible refine Kd.C_drewN ?_ _) | (with_reducible refine Kd.C_drew ?_))); (case side2 => exact HC0.out); rintro e w11 ⟨rfl, hb⟩; replace BK535 := bkb_ BK535 hb; replace HB := hbs_ hb; clear hb))
     repeat (go_quiet (first | (go_at_call 88; (with_reducible refine (impl_StepOk.calls k1 _ _ l0 x14_1 t537 _ ?side1 ?side2 A9.out).mono ?_); (case side1 => repeat (first | exact (Kd.C_below HR0.out HB.out) | (with_reducible refine Kd.C_alloc ?_ _) | (with_reducible refine Kd.C_drewN ?_ _) | (with_reducible refine Kd.C_drew ?_))); (case side2 => exact HC0.out); rintro e w11 ⟨rfl, hb⟩; replace BK535 := bkb_ BK535 hb; replace HB := hbs_ hb; clear hb)); go_upto_if 20 with (first | (go_at_call 88; (with_reducible refine (impl_StepOk.calls k1 _ _ l0 x14_1 t537 _ ?side1 ?side2 A9.out).mono ?_); (case side1 => repeat (first | exact (Kd.C_below HR0.out HB.out) | (with_reducible refine Kd.C_alloc ?_ _) | (with_reducible refine Kd.C_drewN ?_ _) | (with_reducible refine Kd.C_drew ?_))); (case side2 => exact HC0.out); rintro e w11 ⟨rfl, hb⟩; replace BK535 := bkb_ BK535 hb; replace HB := hbs_ hb; clear hb)))
     (try simp only [Act.put, sb_, sz_, ss_])
     have H := HC10.out
     clear HC10
     by_cases c12 : t537 = true
     ·subst c12
      replace H := ite_t_ H
      have H' := aa_ H
      clear H
      go_wp2
      repeat (go_quiet (fail); try go_wp2)
      go_roundg k1
      case measure => have := HK1.out; omega
      case rel => exact ⟨(wrap64 (x14_1 + 1)), rf_, H', ⟨by have := HK1.out; omega⟩, ⟨bk_ BK535⟩, ⟨bl_⟩⟩
     ·replace c12 := Bool.eq_false_iff.mpr c12
      subst c12
      replace H := ite_f_ H
      obtain rfl := Option.some.inj H
      go_wp2
      repeat (go_quiet (fail); try go_wp2)
      go_ret
      exact ⟨eq_, bl_⟩
    ·rw [if_neg c8] at H
     have c8b0 : decide (x14_1 < (l0.length : Int)) = false := decide_eq_false c8
     clear c8
     (first | rw [c8b0] | (simp only [i64_w, i32_w]; rw [c8b0]) | (have cz_ := c8b0; simp only [Int.ofNat_lt, Int.ofNat_le, gt_iff_lt, ge_iff_le] at cz_; rw [cz_]; clear cz_) | skip)
     obtain ⟨ji13, hji13⟩ : ∃ j_ : Int, (wrap64 ((l0.length : Int) - 1)) = j_ := ⟨_, rfl⟩
     replace H : (if 0 ≤ (ji13) then (if (ji13) < (l0.length : Int) then (some ((((rd_T111 l0 (ji13)).f1.f0.f0) == a1_0 && (((rd_T111 l0 (ji13)).f1.f0.f1) == a1_1)) && (((rd_T111 l0 (ji13)).f1.f1) == a2))) else (none)) else (none)) = some r := by first | (rw [hji13] at H; exact H) | (simp only [hji13] at H ⊢; exact H)
     have hji13w : (IntKind.i64.wrap ((l0.length : Int) - 1)) = ji13 := (i64_w _).trans hji13
     obtain ⟨c14b0, H⟩ := ifd_ H
     obtain ⟨c15b0, H⟩ := ifd_ H
     obtain rfl := Option.some.inj H
     have p538 : 0 ≤ ((ji13) : Int) := od_
     have q538 : (ji13) < (l0.length : Int) := od_
     obtain ⟨ad538, A538_13, c538_13, e538, hx538_0, hx538_1, hx538_2, hx538_3, hx538_4, hx538_5, hx538_6, hx538_7, hx538_8, hx538_9, hx538_10, hx538_11, hx538_12, hx538_13, hl538_13, hi538_13⟩ := at_T111 HR0.out (ji13) p538 q538
     cases e538
     replace hx538_0 := cb_ HB hx538_0
     replace hx538_1 := cb_ HB hx538_1
     replace hx538_2 := cb_ HB hx538_2
     replace hx538_3 := cb_ HB hx538_3
     replace hx538_4 := cb_ HB hx538_4
     replace hx538_5 := cb_ HB hx538_5
     replace hx538_6 := cb_ HB hx538_6
     replace hx538_7 := cb_ HB hx538_7
     replace hx538_8 := cb_ HB hx538_8
     replace hx538_9 := cb_ HB hx538_9
     replace hx538_10 := cb_ HB hx538_10
     replace hx538_11 := cb_ HB hx538_11
     replace hx538_12 := cb_ HB hx538_12
     replace hx538_13 := cb_ HB hx538_13
     have HR538_13 := aa_ hi538_13
     have HC538_13 := aa_ hl538_13
     clear hi538_13 hl538_13
     replace p538 := eq_true p538
     replace q538 := eq_true q538
     have hcz16 := blk_cell BK535.out
     have hfz16 := blk_frozen BK535.out
     go_wp2
     repeat (go_quiet (fail); try go_wp2)
     go_ret
     exact ⟨by first | rfl | (simp [errW_none, errW_some] <;> rfl) | (simp only [← hji13]; first | rfl | (simp [errW_none, errW_some] <;> rfl)) | (simp [*, errW_none, errW_some] <;> rfl), bl_⟩
 ·replace c7 := Bool.eq_false_iff.mpr c7
  subst c7
  replace H := ite_f_ H
  obtain rfl := Option.some.inj H
  go_wp2
  repeat (go_quiet (fail); try go_wp2)
  go_ret
  exact ⟨eq_, bl_⟩
end Go.Proofs.YteofimccoadmeaaGreat.PA
