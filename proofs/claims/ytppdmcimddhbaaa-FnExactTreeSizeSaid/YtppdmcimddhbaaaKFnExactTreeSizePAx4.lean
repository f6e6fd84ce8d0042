import Derived.Test.YtppdmcimddhbaaaKFnExactTreeSizePAx0
import Derived.Test.YtppdmcimddhbaaaKFnExactTreeSizePAx1
import Derived.Test.YtppdmcimddhbaaaKFnExactTreeSizePAx2
import Derived.Test.YtppdmcimddhbaaaKFnExactTreeSizePAx3
-- A text of this claim: written by the session's own program out of the translation (wip/tools). Lean checks it.
namespace Go.Proofs.Ytppdmcimddhbaaa.PA
open Go.RowKit Go.Proofs.YtppdmcimddhbaaaW.PrintWords Go.Proofs.YtppdmcimddhbaaaW.PrintLast Go.Proofs.YtppdmcimddhbaaaW.PrintMore
attribute [local go_sem] max2_int min2_int max_two min_two max_three min_three max_four min_four   -- for this text's walks alone
set_option linter.unusedVariables false
set_option linter.unusedSimpArgs false
attribute [local go_sem high] eqA27 eqA29
mutual
def spec_StepOk.j0 : Nat → List (S105) → Int → Bool → Int → Int → Int → Int → Int → Int → Int → Int → Int → Int → Int → Int → Int → List Int → Int → Int → Int → Int → Int → Int → Int → Int → Int → Int → Option (Bool)
 | 0, _, _, _, _, _, _, _, _, _, _, _, _, _, _, _, _, _, _, _, _, _, _, _, _, _, _, _ => none
 | k + 1, x0, x1, x31, x128000, x128001, x128002, x128003, x128004, x128005, x128006, x128007, x128008, x128009, x128010, x128011, x128012, x128013, x129000, x129001, x129002, x129003, x129004, x129005, x129006, x129007, x129008, x129009 => if x31 = true then (some false) else (spec_StepOk.l0 k x0 x1 0 x128000 x128001 x128002 x128003 x128004 x128005 x128006 x128007 x128008 x128009 x128010 x128011 x128012 x128013 x129000 x129001 x129002 x129003 x129004 x129005 x129006 x129007 x129008 x129009)
def spec_StepOk.l0 : Nat → List (S105) → Int → Int → Int → Int → Int → Int → Int → Int → Int → Int → Int → Int → Int → Int → Int → List Int → Int → Int → Int → Int → Int → Int → Int → Int → Int → Int → Option (Bool)
 | 0, _, _, _, _, _, _, _, _, _, _, _, _, _, _, _, _, _, _, _, _, _, _, _, _, _, _, _ => none
 | k + 1, x0, x1, x7, x128000, x128001, x128002, x128003, x128004, x128005, x128006, x128007, x128008, x128009, x128010, x128011, x128012, x128013, x129000, x129001, x129002, x129003, x129004, x129005, x129006, x129007, x129008, x129009 => if x7 < (x128013.length : Int) then (if 0 ≤ x7 then ((spec_l01In.f (rd x128013 x7) 0 (wrap64 (x1 - 1))).bind fun t131 => (if t131 = true then (spec_StepOk.l0 k x0 x1 (wrap64 (x7 + 1)) x128000 x128001 x128002 x128003 x128004 x128005 x128006 x128007 x128008 x128009 x128010 x128011 x128012 x128013 x129000 x129001 x129002 x129003 x129004 x129005 x129006 x129007 x129008 x129009) else (some false))) else (none)) else (if x129000 = 1 then (if x128012 = x129003 then (some ((x128013.length : Int) == 0)) else (some false)) else (if x129000 = 2 then (if (x128013.length : Int) = 1 then ((spec_l07Shown.f k x0 x1 x129004 x129005 x128012).bind fun t132 => (some t132)) else (some false)) else (if x129000 = 4 then (if (x128013.length : Int) = 2 then (if 0 < (x128013.length : Int) then (if 0 ≤ (rd x128013 0) then (if (rd x128013 0) < (x0.length : Int) then (if ((((rd_T105 x0 (rd x128013 0)).f1.f0.f0) == x129004 && (((rd_T105 x0 (rd x128013 0)).f1.f0.f1) == x129005)) && (((rd_T105 x0 (rd x128013 0)).f1.f1) == x128012)) = true then (if 1 < (x128013.length : Int) then (if 0 ≤ (rd x128013 1) then (if (rd x128013 1) < (x0.length : Int) then (some ((((rd_T105 x0 (rd x128013 1)).f1.f0.f0) == x129006 && (((rd_T105 x0 (rd x128013 1)).f1.f0.f1) == x129007)) && (((rd_T105 x0 (rd x128013 1)).f1.f1) == x128012))) else (none)) else (none)) else (none)) else (some false)) else (none)) else (none)) else (none)) else (some false)) else (if (x128013.length : Int) = 2 then (if 0 < (x128013.length : Int) then (if 0 ≤ (rd x128013 0) then (if (rd x128013 0) < (x0.length : Int) then (if (!(((rd_T105 x0 (rd x128013 0)).f1.f0.f0) == x129004) || (!(((rd_T105 x0 (rd x128013 0)).f1.f0.f1) == x129005))) = true then (some false) else (if 1 < (x128013.length : Int) then (if 0 ≤ (rd x128013 1) then (if (rd x128013 1) < (x0.length : Int) then (some ((((rd_T105 x0 (rd x128013 1)).f1.f0.f0) == ((rd_T105 x0 (rd x128013 0)).f1.f1) && (((rd_T105 x0 (rd x128013 1)).f1.f0.f1) == x129007)) && (((rd_T105 x0 (rd x128013 1)).f1.f1) == x128012))) else (none)) else (none)) else (none))) else (none)) else (none)) else (none)) else (some false)))))
end
def spec_StepOk.f (k : Nat) (l0 : List (S105)) (a1 : Int) : Option (Bool) := (spec_l01In.f a1 0 (wrap64 ((l0.length : Int) - 1))).bind fun t125 => (if t125 = true then (if 0 ≤ a1 then (if a1 < (l0.length : Int) then ((spec_CredOk.f k ((rd_T105 l0 a1).f0.f0) ((rd_T105 l0 a1).f0.f1.f0) ((rd_T105 l0 a1).f0.f1.f1) ((rd_T105 l0 a1).f0.f2) ((rd_T105 l0 a1).f0.f3.f0) ((rd_T105 l0 a1).f0.f3.f1) ((rd_T105 l0 a1).f0.f4.f0) ((rd_T105 l0 a1).f0.f4.f1) ((rd_T105 l0 a1).f0.f5) ((rd_T105 l0 a1).f0.f6)).bind fun t129 => (if t129 = true then (spec_StepOk.j0 k l0 a1 (!(((rd_T105 l0 a1).f1.f0.f0) == ((rd_T105 l0 a1).f0.f1.f0)) || (!(((rd_T105 l0 a1).f1.f0.f1) == ((rd_T105 l0 a1).f0.f1.f1)))) ((rd_T105 l0 a1).f0.f0) ((rd_T105 l0 a1).f0.f1.f0) ((rd_T105 l0 a1).f0.f1.f1) ((rd_T105 l0 a1).f0.f2) ((rd_T105 l0 a1).f0.f3.f0) ((rd_T105 l0 a1).f0.f3.f1) ((rd_T105 l0 a1).f0.f4.f0) ((rd_T105 l0 a1).f0.f4.f1) ((rd_T105 l0 a1).f0.f5) ((rd_T105 l0 a1).f0.f6) ((rd_T105 l0 a1).f1.f0.f0) ((rd_T105 l0 a1).f1.f0.f1) ((rd_T105 l0 a1).f1.f1) ((rd_T105 l0 a1).f2) ((rd_T105 l0 a1).f0.f0) ((rd_T105 l0 a1).f0.f1.f0) ((rd_T105 l0 a1).f0.f1.f1) ((rd_T105 l0 a1).f0.f2) ((rd_T105 l0 a1).f0.f3.f0) ((rd_T105 l0 a1).f0.f3.f1) ((rd_T105 l0 a1).f0.f4.f0) ((rd_T105 l0 a1).f0.f4.f1) ((rd_T105 l0 a1).f0.f5) ((rd_T105 l0 a1).f0.f6)) else (spec_StepOk.j0 k l0 a1 true ((rd_T105 l0 a1).f0.f0) ((rd_T105 l0 a1).f0.f1.f0) ((rd_T105 l0 a1).f0.f1.f1) ((rd_T105 l0 a1).f0.f2) ((rd_T105 l0 a1).f0.f3.f0) ((rd_T105 l0 a1).f0.f3.f1) ((rd_T105 l0 a1).f0.f4.f0) ((rd_T105 l0 a1).f0.f4.f1) ((rd_T105 l0 a1).f0.f5) ((rd_T105 l0 a1).f0.f6) ((rd_T105 l0 a1).f1.f0.f0) ((rd_T105 l0 a1).f1.f0.f1) ((rd_T105 l0 a1).f1.f1) ((rd_T105 l0 a1).f2) ((rd_T105 l0 a1).f0.f0) ((rd_T105 l0 a1).f0.f1.f0) ((rd_T105 l0 a1).f0.f1.f1) ((rd_T105 l0 a1).f0.f2) ((rd_T105 l0 a1).f0.f3.f0) ((rd_T105 l0 a1).f0.f3.f1) ((rd_T105 l0 a1).f0.f4.f0) ((rd_T105 l0 a1).f0.f4.f1) ((rd_T105 l0 a1).f0.f5) ((rd_T105 l0 a1).f0.f6)))) else (none)) else (none)) else (some false))
set_option maxHeartbeats 8000000 in
set_option maxRecDepth 100000 in
theorem spec_StepOk.calls (k : Nat) (A0 : Option Addr) (c0 : Nat) (l0 : List (S105)) (a1 : Int) (r : Bool) (w : World) (hr0 : Kd.C k105 w A0 l0.length l0) (hc0 : l0.length ≤ c0) (h : spec_StepOk.f k l0 a1 = some r) :
  Calls Try.prog 86 #[.slice A0 l0.length c0, .int .i64 a1] w fun e w' => e = .returned (.bool r) ∧ Below w.heap.size w w' := by
 have hu105 := Try.underlying105
 have hu46 := Try.underlying46
 have hu27 := Try.underlying27
 have hu29 := Try.underlying29
 have HR0 := Aside0.mk hr0
 have HC0 := Aside0.mk hc0
 clear hr0 hc0
 have HB := Aside0.mk (Below.refl w.heap.size w)
 have H : ((spec_l01In.f a1 0 (wrap64 ((l0.length : Int) - 1))).bind fun t125 => (if t125 = true then (if 0 ≤ a1 then (if a1 < (l0.length : Int) then ((spec_CredOk.f k ((rd_T105 l0 a1).f0.f0) ((rd_T105 l0 a1).f0.f1.f0) ((rd_T105 l0 a1).f0.f1.f1) ((rd_T105 l0 a1).f0.f2) ((rd_T105 l0 a1).f0.f3.f0) ((rd_T105 l0 a1).f0.f3.f1) ((rd_T105 l0 a1).f0.f4.f0) ((rd_T105 l0 a1).f0.f4.f1) ((rd_T105 l0 a1).f0.f5) ((rd_T105 l0 a1).f0.f6)).bind fun t129 => (if t129 = true then (spec_StepOk.j0 k l0 a1 (!(((rd_T105 l0 a1).f1.f0.f0) == ((rd_T105 l0 a1).f0.f1.f0)) || (!(((rd_T105 l0 a1).f1.f0.f1) == ((rd_T105 l0 a1).f0.f1.f1)))) ((rd_T105 l0 a1).f0.f0) ((rd_T105 l0 a1).f0.f1.f0) ((rd_T105 l0 a1).f0.f1.f1) ((rd_T105 l0 a1).f0.f2) ((rd_T105 l0 a1).f0.f3.f0) ((rd_T105 l0 a1).f0.f3.f1) ((rd_T105 l0 a1).f0.f4.f0) ((rd_T105 l0 a1).f0.f4.f1) ((rd_T105 l0 a1).f0.f5) ((rd_T105 l0 a1).f0.f6) ((rd_T105 l0 a1).f1.f0.f0) ((rd_T105 l0 a1).f1.f0.f1) ((rd_T105 l0 a1).f1.f1) ((rd_T105 l0 a1).f2) ((rd_T105 l0 a1).f0.f0) ((rd_T105 l0 a1).f0.f1.f0) ((rd_T105 l0 a1).f0.f1.f1) ((rd_T105 l0 a1).f0.f2) ((rd_T105 l0 a1).f0.f3.f0) ((rd_T105 l0 a1).f0.f3.f1) ((rd_T105 l0 a1).f0.f4.f0) ((rd_T105 l0 a1).f0.f4.f1) ((rd_T105 l0 a1).f0.f5) ((rd_T105 l0 a1).f0.f6)) else (spec_StepOk.j0 k l0 a1 true ((rd_T105 l0 a1).f0.f0) ((rd_T105 l0 a1).f0.f1.f0) ((rd_T105 l0 a1).f0.f1.f1) ((rd_T105 l0 a1).f0.f2) ((rd_T105 l0 a1).f0.f3.f0) ((rd_T105 l0 a1).f0.f3.f1) ((rd_T105 l0 a1).f0.f4.f0) ((rd_T105 l0 a1).f0.f4.f1) ((rd_T105 l0 a1).f0.f5) ((rd_T105 l0 a1).f0.f6) ((rd_T105 l0 a1).f1.f0.f0) ((rd_T105 l0 a1).f1.f0.f1) ((rd_T105 l0 a1).f1.f1) ((rd_T105 l0 a1).f2) ((rd_T105 l0 a1).f0.f0) ((rd_T105 l0 a1).f0.f1.f0) ((rd_T105 l0 a1).f0.f1.f1) ((rd_T105 l0 a1).f0.f2) ((rd_T105 l0 a1).f0.f3.f0) ((rd_T105 l0 a1).f0.f3.f1) ((rd_T105 l0 a1).f0.f4.f0) ((rd_T105 l0 a1).f0.f4.f1) ((rd_T105 l0 a1).f0.f5) ((rd_T105 l0 a1).f0.f6)))) else (none)) else (none)) else (some false))) = some r := h
 clear h
 obtain ⟨t125, A3, H⟩ := bindE_ H
 by_cases c4 : t125 = true
 ·subst c4
  replace H := ite_t_ H
  by_cases c5 : 0 ≤ a1
  ·rw [if_pos c5] at H
   have c5b0 : decide (0 ≤ a1) = true := decide_eq_true c5
   clear c5
   by_cases c6 : a1 < (l0.length : Int)
   ·rw [if_pos c6] at H
    have c6b0 : decide (a1 < (l0.length : Int)) = true := decide_eq_true c6
    clear c6
    have HC7 := Aside0.mk H
    clear H
    go_enter Try.func86, Try.ntmps86
    go_upto_region 5 with (first | (go_at_call 90; (with_reducible refine (spec_l01In.calls a1 0 (wrap64 ((l0.length : Int) - 1)) true _ A3.out).mono ?_); rintro e w' ⟨rfl, ⟨nd, rfl⟩⟩; (try first | exact ⟨rfl, _, World.drewN_drewN _ _ _⟩ | exact ⟨rfl, _, Eq.trans (World.drewN_drewN _ _ _) (congrArg (World.drewN _) (Nat.add_assoc _ _ _))⟩); have p126 : 0 ≤ (a1 : Int) := of_decide_eq_true (by first | (with_reducible assumption) | assumption); have q126 : a1 < (l0.length : Int) := of_decide_eq_true (by first | (with_reducible assumption) | assumption); obtain ⟨ad126, A126_13, c126_13, e126, hx126_0, hx126_1, hx126_2, hx126_3, hx126_4, hx126_5, hx126_6, hx126_7, hx126_8, hx126_9, hx126_10, hx126_11, hx126_12, hx126_13, hl126_13, hi126_13⟩ := at_T105 HR0.out a1 p126 q126; cases e126; have HR126_13 := Aside0.mk hi126_13; have HC126_13 := Aside0.mk hl126_13; clear hi126_13 hl126_13; replace p126 := eq_true p126; replace q126 := eq_true q126) | ((with_reducible refine gate_dst (N := 5) rfl ?_); (try (refine gate_guard (by rfl) ?_; dsimp only)); refine box_event ?hg (N := 5) ?hd (cs := #[.int .i64 0, .int .i64 0, .int .i64 0, .int .i64 0, .int .i64 0, .int .i64 0, .int .i64 0, .int .i64 0, .int .i64 0, .int .i64 0, .int .i64 0, .int .i64 0, .int .i64 0, .slice none 0 0]) (t := 105) ?hr ?_; (case hd => rfl); (case hg => rfl); (case hr => first | (go_simp; done) | (go_simp; rfl)); intro gb127 hg w8 hbox hb; have BK127 := Aside0.mk (hbox); have GW127 := gs_ hg; have GE127 := gs_ hg; replace HB := hbs_ hb; clear hb hbox hg; have hcz9 := blk_cell BK127.out; have hfz9 := blk_frozen BK127.out) | ((with_reducible refine gate_dst (N := 6) rfl ?_); (try (refine gate_guard (by rfl) ?_; dsimp only)); refine box_event ?hg (N := 6) ?hd (cs := #[.int .i64 0, .int .i64 0, .int .i64 0, .int .i64 0, .int .i64 0, .int .i64 0, .int .i64 0, .int .i64 0, .int .i64 0, .int .i64 0]) (t := 46) ?hr ?_; (case hd => rfl); (case hg => rfl); (case hr => first | (go_simp; done) | (go_simp; rfl)); intro gb128 hg w10 hbox hb; have BK128 := Aside0.mk (hbox); have GW128 := gs_ hg; have GE128 := gs_ hg; replace HB := hbs_ hb; have NB127_128 := Aside0.mk ((by rw [hg]; exact Nat.ne_of_lt (blk_lt (g := gb127) (o := .cells #[.int .i64 ((rd_T105 l0 a1).f0.f0), .int .i64 ((rd_T105 l0 a1).f0.f1.f0), .int .i64 ((rd_T105 l0 a1).f0.f1.f1), .int .i64 ((rd_T105 l0 a1).f0.f2), .int .i64 ((rd_T105 l0 a1).f0.f3.f0), .int .i64 ((rd_T105 l0 a1).f0.f3.f1), .int .i64 ((rd_T105 l0 a1).f0.f4.f0), .int .i64 ((rd_T105 l0 a1).f0.f4.f1), .int .i64 ((rd_T105 l0 a1).f0.f5), .int .i64 ((rd_T105 l0 a1).f0.f6), .int .i64 ((rd_T105 l0 a1).f1.f0.f0), .int .i64 ((rd_T105 l0 a1).f1.f0.f1), .int .i64 ((rd_T105 l0 a1).f1.f1), .slice A126_13 ((rd_T105 l0 a1).f2).length c126_13] 105 (0, 0)) (bk_ BK127)) : gb127 ≠ gb128)); have NB128_127 := Aside0.mk ((by rw [hg]; exact Nat.ne_of_gt (blk_lt (g := gb127) (o := .cells #[.int .i64 ((rd_T105 l0 a1).f0.f0), .int .i64 ((rd_T105 l0 a1).f0.f1.f0), .int .i64 ((rd_T105 l0 a1).f0.f1.f1), .int .i64 ((rd_T105 l0 a1).f0.f2), .int .i64 ((rd_T105 l0 a1).f0.f3.f0), .int .i64 ((rd_T105 l0 a1).f0.f3.f1), .int .i64 ((rd_T105 l0 a1).f0.f4.f0), .int .i64 ((rd_T105 l0 a1).f0.f4.f1), .int .i64 ((rd_T105 l0 a1).f0.f5), .int .i64 ((rd_T105 l0 a1).f0.f6), .int .i64 ((rd_T105 l0 a1).f1.f0.f0), .int .i64 ((rd_T105 l0 a1).f1.f0.f1), .int .i64 ((rd_T105 l0 a1).f1.f1), .slice A126_13 ((rd_T105 l0 a1).f2).length c126_13] 105 (0, 0)) (bk_ BK127)) : gb128 ≠ gb127)); replace BK127 := Aside0.mk (blk_below (g := gb127) (o := .cells #[.int .i64 ((rd_T105 l0 a1).f0.f0), .int .i64 ((rd_T105 l0 a1).f0.f1.f0), .int .i64 ((rd_T105 l0 a1).f0.f1.f1), .int .i64 ((rd_T105 l0 a1).f0.f2), .int .i64 ((rd_T105 l0 a1).f0.f3.f0), .int .i64 ((rd_T105 l0 a1).f0.f3.f1), .int .i64 ((rd_T105 l0 a1).f0.f4.f0), .int .i64 ((rd_T105 l0 a1).f0.f4.f1), .int .i64 ((rd_T105 l0 a1).f0.f5), .int .i64 ((rd_T105 l0 a1).f0.f6), .int .i64 ((rd_T105 l0 a1).f1.f0.f0), .int .i64 ((rd_T105 l0 a1).f1.f0.f1), .int .i64 ((rd_T105 l0 a1).f1.f1), .slice A126_13 ((rd_T105 l0 a1).f2).length c126_13] 105 (0, 0)) (bk_ BK127) hb); clear hb hbox hg; have hnb11 := NB128_127.out; have hnc11 := NB127_128.out; have hcz12 := blk_cell BK128.out; have hfz12 := blk_frozen BK128.out))
    repeat (go_quiet (first | (go_at_call 90; (with_reducible refine (spec_l01In.calls a1 0 (wrap64 ((l0.length : Int) - 1)) true _ A3.out).mono ?_); rintro e w' ⟨rfl, ⟨nd, rfl⟩⟩; (try first | exact ⟨rfl, _, World.drewN_drewN _ _ _⟩ | exact ⟨rfl, _, Eq.trans (World.drewN_drewN _ _ _) (congrArg (World.drewN _) (Nat.add_assoc _ _ _))⟩); have p126 : 0 ≤ (a1 : Int) := of_decide_eq_true (by first | (with_reducible assumption) | assumption); have q126 : a1 < (l0.length : Int) := of_decide_eq_true (by first | (with_reducible assumption) | assumption); obtain ⟨ad126, A126_13, c126_13, e126, hx126_0, hx126_1, hx126_2, hx126_3, hx126_4, hx126_5, hx126_6, hx126_7, hx126_8, hx126_9, hx126_10, hx126_11, hx126_12, hx126_13, hl126_13, hi126_13⟩ := at_T105 HR0.out a1 p126 q126; cases e126; have HR126_13 := Aside0.mk hi126_13; have HC126_13 := Aside0.mk hl126_13; clear hi126_13 hl126_13; replace p126 := eq_true p126; replace q126 := eq_true q126) | ((with_reducible refine gate_dst (N := 5) rfl ?_); (try (refine gate_guard (by rfl) ?_; dsimp only)); refine box_event ?hg (N := 5) ?hd (cs := #[.int .i64 0, .int .i64 0, .int .i64 0, .int .i64 0, .int .i64 0, .int .i64 0, .int .i64 0, .int .i64 0, .int .i64 0, .int .i64 0, .int .i64 0, .int .i64 0, .int .i64 0, .slice none 0 0]) (t := 105) ?hr ?_; (case hd => rfl); (case hg => rfl); (case hr => first | (go_simp; done) | (go_simp; rfl)); intro gb127 hg w8 hbox hb; have BK127 := Aside0.mk (hbox); have GW127 := gs_ hg; have GE127 := gs_ hg; replace HB := hbs_ hb; clear hb hbox hg; have hcz9 := blk_cell BK127.out; have hfz9 := blk_frozen BK127.out) | ((with_reducible refine gate_dst (N := 6) rfl ?_); (try (refine gate_guard (by rfl) ?_; dsimp only)); refine box_event ?hg (N := 6) ?hd (cs := #[.int .i64 0, .int .i64 0, .int .i64 0, .int .i64 0, .int .i64 0, .int .i64 0, .int .i64 0, .int .i64 0, .int .i64 0, .int .i64 0]) (t := 46) ?hr ?_; (case hd => rfl); (case hg => rfl); (case hr => first | (go_simp; done) | (go_simp; rfl)); intro gb128 hg w10 hbox hb; have BK128 := Aside0.mk (hbox); have GW128 := gs_ hg; have GE128 := gs_ hg; replace HB := hbs_ hb; have NB127_128 := Aside0.mk ((by rw [hg]; exact Nat.ne_of_lt (blk_lt (g := gb127) (o := .cells #[.int .i64 ((rd_T105 l0 a1).f0.f0), .int .i64 ((rd_T105 l0 a1).f0.f1.f0), .int .i64 ((rd_T105 l0 a1).f0.f1.f1), .int .i64 ((rd_T105 l0 a1).f0.f2), .int .i64 ((rd_T105 l0 a1).f0.f3.f0), .int .i64 ((rd_T105 l0 a1).f0.f3.f1), .int .i64 ((rd_T105 l0 a1).f0.f4.f0), .int .i64 ((rd_T105 l0 a1).f0.f4.f1), .int .i64 ((rd_T105 l0 a1).f0.f5), .int .i64 ((rd_T105 l0 a1).f0.f6), .int .i64 ((rd_T105 l0 a1).f1.f0.f0), .int .i64 ((rd_T105 l0 a1).f1.f0.f1), .int .i64 ((rd_T105 l0 a1).f1.f1), .slice A126_13 ((rd_T105 l0 a1).f2).length c126_13] 105 (0, 0)) (bk_ BK127)) : gb127 ≠ gb128)); have NB128_127 := Aside0.mk ((by rw [hg]; exact Nat.ne_of_gt (blk_lt (g := gb127) (o := .cells #[.int .i64 ((rd_T105 l0 a1).f0.f0), .int .i64 ((rd_T105 l0 a1).f0.f1.f0), .int .i64 ((rd_T105 l0 a1).f0.f1.f1), .int .i64 ((rd_T105 l0 a1).f0.f2), .int .i64 ((rd_T105 l0 a1).f0.f3.f0), .int .i64 ((rd_T105 l0 a1).f0.f3.f1), .int .i64 ((rd_T105 l0 a1).f0.f4.f0), .int .i64 ((rd_T105 l0 a1).f0.f4.f1), .int .i64 ((rd_T105 l0 a1).f0.f5), .int .i64 ((rd_T105 l0 a1).f0.f6), .int .i64 ((rd_T105 l0 a1).f1.f0.f0), .int .i64 ((rd_T105 l0 a1).f1.f0.f1), .int .i64 ((rd_T105 l0 a1).f1.f1), .slice A126_13 ((rd_T105 l0 a1).f2).length c126_13] 105 (0, 0)) (bk_ BK127)) : gb128 ≠ gb127)); replace BK127 := Aside0.mk (blk_below (g := gb127) (o := .cells #[.int .i64 ((rd_T105 l0 a1).f0.f0), .int .i64 ((rd_T105 l0 a1).f0.f1.f0), .int .i64 ((rd_T105 l0 a1).f0.f1.f1), .int .i64 ((rd_T105 l0 a1).f0.f2), .int .i64 ((rd_T105 l0 a1).f0.f3.f0), .int .i64 ((rd_T105 l0 a1).f0.f3.f1), .int .i64 ((rd_T105 l0 a1).f0.f4.f0), .int .i64 ((rd_T105 l0 a1).f0.f4.f1), .int .i64 ((rd_T105 l0 a1).f0.f5), .int .i64 ((rd_T105 l0 a1).f0.f6), .int .i64 ((rd_T105 l0 a1).f1.f0.f0), .int .i64 ((rd_T105 l0 a1).f1.f0.f1), .int .i64 ((rd_T105 l0 a1).f1.f1), .slice A126_13 ((rd_T105 l0 a1).f2).length c126_13] 105 (0, 0)) (bk_ BK127) hb); clear hb hbox hg; have hnb11 := NB128_127.out; have hnc11 := NB127_128.out; have hcz12 := blk_cell BK128.out; have hfz12 := blk_frozen BK128.out)); go_upto_region 5 with (first | (go_at_call 90; (with_reducible refine (spec_l01In.calls a1 0 (wrap64 ((l0.length : Int) - 1)) true _ A3.out).mono ?_); rintro e w' ⟨rfl, ⟨nd, rfl⟩⟩; (try first | exact ⟨rfl, _, World.drewN_drewN _ _ _⟩ | exact ⟨rfl, _, Eq.trans (World.drewN_drewN _ _ _) (congrArg (World.drewN _) (Nat.add_assoc _ _ _))⟩); have p126 : 0 ≤ (a1 : Int) := of_decide_eq_true (by first | (with_reducible assumption) | assumption); have q126 : a1 < (l0.length : Int) := of_decide_eq_true (by first | (with_reducible assumption) | assumption); obtain ⟨ad126, A126_13, c126_13, e126, hx126_0, hx126_1, hx126_2, hx126_3, hx126_4, hx126_5, hx126_6, hx126_7, hx126_8, hx126_9, hx126_10, hx126_11, hx126_12, hx126_13, hl126_13, hi126_13⟩ := at_T105 HR0.out a1 p126 q126; cases e126; have HR126_13 := Aside0.mk hi126_13; have HC126_13 := Aside0.mk hl126_13; clear hi126_13 hl126_13; replace p126 := eq_true p126; replace q126 := eq_true q126) | ((with_reducible refine gate_dst (N := 5) rfl ?_); (try (refine gate_guard (by rfl) ?_; dsimp only)); refine box_event ?hg (N := 5) ?hd (cs := #[.int .i64 0, .int .i64 0, .int .i64 0, .int .i64 0, .int .i64 0, .int .i64 0, .int .i64 0, .int .i64 0, .int .i64 0, .int .i64 0, .int .i64 0, .int .i64 0, .int .i64 0, .slice none 0 0]) (t := 105) ?hr ?_; (case hd => rfl); (case hg => rfl); (case hr => first | (go_simp; done) | (go_simp; rfl)); intro gb127 hg w8 hbox hb; have BK127 := Aside0.mk (hbox); have GW127 := gs_ hg; have GE127 := gs_ hg; replace HB := hbs_ hb; clear hb hbox hg; have hcz9 := blk_cell BK127.out; have hfz9 := blk_frozen BK127.out) | ((with_reducible refine gate_dst (N := 6) rfl ?_); (try (refine gate_guard (by rfl) ?_; dsimp only)); refine box_event ?hg (N := 6) ?hd (cs := #[.int .i64 0, .int .i64 0, .int .i64 0, .int .i64 0, .int .i64 0, .int .i64 0, .int .i64 0, .int .i64 0, .int .i64 0, .int .i64 0]) (t := 46) ?hr ?_; (case hd => rfl); (case hg => rfl); (case hr => first | (go_simp; done) | (go_simp; rfl)); intro gb128 hg w10 hbox hb; have BK128 := Aside0.mk (hbox); have GW128 := gs_ hg; have GE128 := gs_ hg; replace HB := hbs_ hb; have NB127_128 := Aside0.mk ((by rw [hg]; exact Nat.ne_of_lt (blk_lt (g := gb127) (o := .cells #[.int .i64 ((rd_T105 l0 a1).f0.f0), .int .i64 ((rd_T105 l0 a1).f0.f1.f0), .int .i64 ((rd_T105 l0 a1).f0.f1.f1), .int .i64 ((rd_T105 l0 a1).f0.f2), .int .i64 ((rd_T105 l0 a1).f0.f3.f0), .int .i64 ((rd_T105 l0 a1).f0.f3.f1), .int .i64 ((rd_T105 l0 a1).f0.f4.f0), .int .i64 ((rd_T105 l0 a1).f0.f4.f1), .int .i64 ((rd_T105 l0 a1).f0.f5), .int .i64 ((rd_T105 l0 a1).f0.f6), .int .i64 ((rd_T105 l0 a1).f1.f0.f0), .int .i64 ((rd_T105 l0 a1).f1.f0.f1), .int .i64 ((rd_T105 l0 a1).f1.f1), .slice A126_13 ((rd_T105 l0 a1).f2).length c126_13] 105 (0, 0)) (bk_ BK127)) : gb127 ≠ gb128)); have NB128_127 := Aside0.mk ((by rw [hg]; exact Nat.ne_of_gt (blk_lt (g := gb127) (o := .cells #[.int .i64 ((rd_T105 l0 a1).f0.f0), .int .i64 ((rd_T105 l0 a1).f0.f1.f0), .int .i64 ((rd_T105 l0 a1).f0.f1.f1), .int .i64 ((rd_T105 l0 a1).f0.f2), .int .i64 ((rd_T105 l0 a1).f0.f3.f0), .int .i64 ((rd_T105 l0 a1).f0.f3.f1), .int .i64 ((rd_T105 l0 a1).f0.f4.f0), .int .i64 ((rd_T105 l0 a1).f0.f4.f1), .int .i64 ((rd_T105 l0 a1).f0.f5), .int .i64 ((rd_T105 l0 a1).f0.f6), .int .i64 ((rd_T105 l0 a1).f1.f0.f0), .int .i64 ((rd_T105 l0 a1).f1.f0.f1), .int .i64 ((rd_T105 l0 a1).f1.f1), .slice A126_13 ((rd_T105 l0 a1).f2).length c126_13] 105 (0, 0)) (bk_ BK127)) : gb128 ≠ gb127)); replace BK127 := Aside0.mk (blk_below (g := gb127) (o := .cells #[.int .i64 ((rd_T105 l0 a1).f0.f0), .int .i64 ((rd_T105 l0 a1).f0.f1.f0), .int .i64 ((rd_T105 l0 a1).f0.f1.f1), .int .i64 ((rd_T105 l0 a1).f0.f2), .int .i64 ((rd_T105 l0 a1).f0.f3.f0), .int .i64 ((rd_T105 l0 a1).f0.f3.f1), .int .i64 ((rd_T105 l0 a1).f0.f4.f0), .int .i64 ((rd_T105 l0 a1).f0.f4.f1), .int .i64 ((rd_T105 l0 a1).f0.f5), .int .i64 ((rd_T105 l0 a1).f0.f6), .int .i64 ((rd_T105 l0 a1).f1.f0.f0), .int .i64 ((rd_T105 l0 a1).f1.f0.f1), .int .i64 ((rd_T105 l0 a1).f1.f1), .slice A126_13 ((rd_T105 l0 a1).f2).length c126_13] 105 (0, 0)) (bk_ BK127) hb); clear hb hbox hg; have hnb11 := NB128_127.out; have hnc11 := NB127_128.out; have hcz12 := blk_cell BK128.out; have hfz12 := blk_frozen BK128.out)))
    (try simp only [Act.put, List.setIfInBounds_toArray, List.set_cons_zero, List.set_cons_succ])
    go_cut [31] (fun v31 wc => ∃ (kq : Nat) (x31_6 : Bool), v31 = .bool x31_6 ∧ Aside0 (spec_StepOk.j0 kq l0 a1 x31_6 ((rd_T105 l0 a1).f0.f0) ((rd_T105 l0 a1).f0.f1.f0) ((rd_T105 l0 a1).f0.f1.f1) ((rd_T105 l0 a1).f0.f2) ((rd_T105 l0 a1).f0.f3.f0) ((rd_T105 l0 a1).f0.f3.f1) ((rd_T105 l0 a1).f0.f4.f0) ((rd_T105 l0 a1).f0.f4.f1) ((rd_T105 l0 a1).f0.f5) ((rd_T105 l0 a1).f0.f6) ((rd_T105 l0 a1).f1.f0.f0) ((rd_T105 l0 a1).f1.f0.f1) ((rd_T105 l0 a1).f1.f1) ((rd_T105 l0 a1).f2) ((rd_T105 l0 a1).f0.f0) ((rd_T105 l0 a1).f0.f1.f0) ((rd_T105 l0 a1).f0.f1.f1) ((rd_T105 l0 a1).f0.f2) ((rd_T105 l0 a1).f0.f3.f0) ((rd_T105 l0 a1).f0.f3.f1) ((rd_T105 l0 a1).f0.f4.f0) ((rd_T105 l0 a1).f0.f4.f1) ((rd_T105 l0 a1).f0.f5) ((rd_T105 l0 a1).f0.f6) = some r) ∧ Aside0 (kq ≤ k) ∧ Aside0 (wc.heap[gb127]? = some (.cells #[.int .i64 ((rd_T105 l0 a1).f0.f0), .int .i64 ((rd_T105 l0 a1).f0.f1.f0), .int .i64 ((rd_T105 l0 a1).f0.f1.f1), .int .i64 ((rd_T105 l0 a1).f0.f2), .int .i64 ((rd_T105 l0 a1).f0.f3.f0), .int .i64 ((rd_T105 l0 a1).f0.f3.f1), .int .i64 ((rd_T105 l0 a1).f0.f4.f0), .int .i64 ((rd_T105 l0 a1).f0.f4.f1), .int .i64 ((rd_T105 l0 a1).f0.f5), .int .i64 ((rd_T105 l0 a1).f0.f6), .int .i64 ((rd_T105 l0 a1).f1.f0.f0), .int .i64 ((rd_T105 l0 a1).f1.f0.f1), .int .i64 ((rd_T105 l0 a1).f1.f1), (.slice A126_13 ((rd_T105 l0 a1).f2).length c126_13)] 105 (0, 0))) ∧ Aside0 (wc.heap[gb128]? = some (.cells #[.int .i64 ((rd_T105 l0 a1).f0.f0), .int .i64 ((rd_T105 l0 a1).f0.f1.f0), .int .i64 ((rd_T105 l0 a1).f0.f1.f1), .int .i64 ((rd_T105 l0 a1).f0.f2), .int .i64 ((rd_T105 l0 a1).f0.f3.f0), .int .i64 ((rd_T105 l0 a1).f0.f3.f1), .int .i64 ((rd_T105 l0 a1).f0.f4.f0), .int .i64 ((rd_T105 l0 a1).f0.f4.f1), .int .i64 ((rd_T105 l0 a1).f0.f5), .int .i64 ((rd_T105 l0 a1).f0.f6)] 46 (0, 0))) ∧ Aside0 (Below w.heap.size w wc))
    case first =>
     have H := HC7.out
     clear HC7
     obtain ⟨t129, A13, H⟩ := bindE_ H
     by_cases c14 : t129 = true
     ·subst c14
      replace H := ite_t_ H
      have H' := Aside0.mk H
      clear H
      have hnb15 := NB128_127.out
      have hnc15 := NB127_128.out
      have hcz16 := blk_cell BK128.out
      have hfz16 := blk_frozen BK128.out
      go_wp2_with (first | (go_at_call 115; (with_reducible refine (spec_CredOk.calls k ((rd_T105 l0 a1).f0.f0) ((rd_T105 l0 a1).f0.f1.f0) ((rd_T105 l0 a1).f0.f1.f1) ((rd_T105 l0 a1).f0.f2) ((rd_T105 l0 a1).f0.f3.f0) ((rd_T105 l0 a1).f0.f3.f1) ((rd_T105 l0 a1).f0.f4.f0) ((rd_T105 l0 a1).f0.f4.f1) ((rd_T105 l0 a1).f0.f5) ((rd_T105 l0 a1).f0.f6) true _ A13.out).mono ?_); rintro e w17 ⟨rfl, hb⟩; replace BK127 := Aside0.mk (blk_below (g := gb127) (o := .cells #[.int .i64 ((rd_T105 l0 a1).f0.f0), .int .i64 ((rd_T105 l0 a1).f0.f1.f0), .int .i64 ((rd_T105 l0 a1).f0.f1.f1), .int .i64 ((rd_T105 l0 a1).f0.f2), .int .i64 ((rd_T105 l0 a1).f0.f3.f0), .int .i64 ((rd_T105 l0 a1).f0.f3.f1), .int .i64 ((rd_T105 l0 a1).f0.f4.f0), .int .i64 ((rd_T105 l0 a1).f0.f4.f1), .int .i64 ((rd_T105 l0 a1).f0.f5), .int .i64 ((rd_T105 l0 a1).f0.f6), .int .i64 ((rd_T105 l0 a1).f1.f0.f0), .int .i64 ((rd_T105 l0 a1).f1.f0.f1), .int .i64 ((rd_T105 l0 a1).f1.f1), .slice A126_13 ((rd_T105 l0 a1).f2).length c126_13] 105 (0, 0)) (bk_ BK127) hb); replace BK128 := Aside0.mk (blk_below (g := gb128) (o := .cells #[.int .i64 ((rd_T105 l0 a1).f0.f0), .int .i64 ((rd_T105 l0 a1).f0.f1.f0), .int .i64 ((rd_T105 l0 a1).f0.f1.f1), .int .i64 ((rd_T105 l0 a1).f0.f2), .int .i64 ((rd_T105 l0 a1).f0.f3.f0), .int .i64 ((rd_T105 l0 a1).f0.f3.f1), .int .i64 ((rd_T105 l0 a1).f0.f4.f0), .int .i64 ((rd_T105 l0 a1).f0.f4.f1), .int .i64 ((rd_T105 l0 a1).f0.f5), .int .i64 ((rd_T105 l0 a1).f0.f6)] 46 (0, 0)) (bk_ BK128) hb); replace HB := hbs_ hb; clear hb; have hcz18 := blk_cell BK127.out; have hfz18 := blk_frozen BK127.out; have hcz19 := blk_cell BK128.out; have hfz19 := blk_frozen BK128.out))
      repeat (go_quiet (first | (go_at_call 115; (with_reducible refine (spec_CredOk.calls k ((rd_T105 l0 a1).f0.f0) ((rd_T105 l0 a1).f0.f1.f0) ((rd_T105 l0 a1).f0.f1.f1) ((rd_T105 l0 a1).f0.f2) ((rd_T105 l0 a1).f0.f3.f0) ((rd_T105 l0 a1).f0.f3.f1) ((rd_T105 l0 a1).f0.f4.f0) ((rd_T105 l0 a1).f0.f4.f1) ((rd_T105 l0 a1).f0.f5) ((rd_T105 l0 a1).f0.f6) true _ A13.out).mono ?_); rintro e w17 ⟨rfl, hb⟩; replace BK127 := Aside0.mk (blk_below (g := gb127) (o := .cells #[.int .i64 ((rd_T105 l0 a1).f0.f0), .int .i64 ((rd_T105 l0 a1).f0.f1.f0), .int .i64 ((rd_T105 l0 a1).f0.f1.f1), .int .i64 ((rd_T105 l0 a1).f0.f2), .int .i64 ((rd_T105 l0 a1).f0.f3.f0), .int .i64 ((rd_T105 l0 a1).f0.f3.f1), .int .i64 ((rd_T105 l0 a1).f0.f4.f0), .int .i64 ((rd_T105 l0 a1).f0.f4.f1), .int .i64 ((rd_T105 l0 a1).f0.f5), .int .i64 ((rd_T105 l0 a1).f0.f6), .int .i64 ((rd_T105 l0 a1).f1.f0.f0), .int .i64 ((rd_T105 l0 a1).f1.f0.f1), .int .i64 ((rd_T105 l0 a1).f1.f1), .slice A126_13 ((rd_T105 l0 a1).f2).length c126_13] 105 (0, 0)) (bk_ BK127) hb); replace BK128 := Aside0.mk (blk_below (g := gb128) (o := .cells #[.int .i64 ((rd_T105 l0 a1).f0.f0), .int .i64 ((rd_T105 l0 a1).f0.f1.f0), .int .i64 ((rd_T105 l0 a1).f0.f1.f1), .int .i64 ((rd_T105 l0 a1).f0.f2), .int .i64 ((rd_T105 l0 a1).f0.f3.f0), .int .i64 ((rd_T105 l0 a1).f0.f3.f1), .int .i64 ((rd_T105 l0 a1).f0.f4.f0), .int .i64 ((rd_T105 l0 a1).f0.f4.f1), .int .i64 ((rd_T105 l0 a1).f0.f5), .int .i64 ((rd_T105 l0 a1).f0.f6)] 46 (0, 0)) (bk_ BK128) hb); replace HB := hbs_ hb; clear hb; have hcz18 := blk_cell BK127.out; have hfz18 := blk_frozen BK127.out; have hcz19 := blk_cell BK128.out; have hfz19 := blk_frozen BK128.out)); try go_wp2_with (first | (go_at_call 115; (with_reducible refine (spec_CredOk.calls k ((rd_T105 l0 a1).f0.f0) ((rd_T105 l0 a1).f0.f1.f0) ((rd_T105 l0 a1).f0.f1.f1) ((rd_T105 l0 a1).f0.f2) ((rd_T105 l0 a1).f0.f3.f0) ((rd_T105 l0 a1).f0.f3.f1) ((rd_T105 l0 a1).f0.f4.f0) ((rd_T105 l0 a1).f0.f4.f1) ((rd_T105 l0 a1).f0.f5) ((rd_T105 l0 a1).f0.f6) true _ A13.out).mono ?_); rintro e w17 ⟨rfl, hb⟩; replace BK127 := Aside0.mk (blk_below (g := gb127) (o := .cells #[.int .i64 ((rd_T105 l0 a1).f0.f0), .int .i64 ((rd_T105 l0 a1).f0.f1.f0), .int .i64 ((rd_T105 l0 a1).f0.f1.f1), .int .i64 ((rd_T105 l0 a1).f0.f2), .int .i64 ((rd_T105 l0 a1).f0.f3.f0), .int .i64 ((rd_T105 l0 a1).f0.f3.f1), .int .i64 ((rd_T105 l0 a1).f0.f4.f0), .int .i64 ((rd_T105 l0 a1).f0.f4.f1), .int .i64 ((rd_T105 l0 a1).f0.f5), .int .i64 ((rd_T105 l0 a1).f0.f6), .int .i64 ((rd_T105 l0 a1).f1.f0.f0), .int .i64 ((rd_T105 l0 a1).f1.f0.f1), .int .i64 ((rd_T105 l0 a1).f1.f1), .slice A126_13 ((rd_T105 l0 a1).f2).length c126_13] 105 (0, 0)) (bk_ BK127) hb); replace BK128 := Aside0.mk (blk_below (g := gb128) (o := .cells #[.int .i64 ((rd_T105 l0 a1).f0.f0), .int .i64 ((rd_T105 l0 a1).f0.f1.f0), .int .i64 ((rd_T105 l0 a1).f0.f1.f1), .int .i64 ((rd_T105 l0 a1).f0.f2), .int .i64 ((rd_T105 l0 a1).f0.f3.f0), .int .i64 ((rd_T105 l0 a1).f0.f3.f1), .int .i64 ((rd_T105 l0 a1).f0.f4.f0), .int .i64 ((rd_T105 l0 a1).f0.f4.f1), .int .i64 ((rd_T105 l0 a1).f0.f5), .int .i64 ((rd_T105 l0 a1).f0.f6)] 46 (0, 0)) (bk_ BK128) hb); replace HB := hbs_ hb; clear hb; have hcz18 := blk_cell BK127.out; have hfz18 := blk_frozen BK127.out; have hcz19 := blk_cell BK128.out; have hfz19 := blk_frozen BK128.out)))
      go_meet
      case rel => exact ⟨_, ((!(((rd_T105 l0 a1).f1.f0.f0) == ((rd_T105 l0 a1).f0.f1.f0)) || (!(((rd_T105 l0 a1).f1.f0.f1) == ((rd_T105 l0 a1).f0.f1.f1))))), (by first | rfl | (simp; done) | (simp [*]; done)), H', ⟨by first | omega | exact Nat.le_refl _⟩, ⟨bk_ BK127⟩, ⟨bk_ BK128⟩, ⟨bl_⟩⟩
     ·replace c14 := Bool.eq_false_iff.mpr c14
      subst c14
      replace H := ite_f_ H
      have H' := Aside0.mk H
      clear H
      have hnb20 := NB128_127.out
      have hnc20 := NB127_128.out
      have hcz21 := blk_cell BK128.out
      have hfz21 := blk_frozen BK128.out
      go_wp2_with (first | (go_at_call 115; (with_reducible refine (spec_CredOk.calls k ((rd_T105 l0 a1).f0.f0) ((rd_T105 l0 a1).f0.f1.f0) ((rd_T105 l0 a1).f0.f1.f1) ((rd_T105 l0 a1).f0.f2) ((rd_T105 l0 a1).f0.f3.f0) ((rd_T105 l0 a1).f0.f3.f1) ((rd_T105 l0 a1).f0.f4.f0) ((rd_T105 l0 a1).f0.f4.f1) ((rd_T105 l0 a1).f0.f5) ((rd_T105 l0 a1).f0.f6) false _ A13.out).mono ?_); rintro e w22 ⟨rfl, hb⟩; replace BK127 := Aside0.mk (blk_below (g := gb127) (o := .cells #[.int .i64 ((rd_T105 l0 a1).f0.f0), .int .i64 ((rd_T105 l0 a1).f0.f1.f0), .int .i64 ((rd_T105 l0 a1).f0.f1.f1), .int .i64 ((rd_T105 l0 a1).f0.f2), .int .i64 ((rd_T105 l0 a1).f0.f3.f0), .int .i64 ((rd_T105 l0 a1).f0.f3.f1), .int .i64 ((rd_T105 l0 a1).f0.f4.f0), .int .i64 ((rd_T105 l0 a1).f0.f4.f1), .int .i64 ((rd_T105 l0 a1).f0.f5), .int .i64 ((rd_T105 l0 a1).f0.f6), .int .i64 ((rd_T105 l0 a1).f1.f0.f0), .int .i64 ((rd_T105 l0 a1).f1.f0.f1), .int .i64 ((rd_T105 l0 a1).f1.f1), .slice A126_13 ((rd_T105 l0 a1).f2).length c126_13] 105 (0, 0)) (bk_ BK127) hb); replace BK128 := Aside0.mk (blk_below (g := gb128) (o := .cells #[.int .i64 ((rd_T105 l0 a1).f0.f0), .int .i64 ((rd_T105 l0 a1).f0.f1.f0), .int .i64 ((rd_T105 l0 a1).f0.f1.f1), .int .i64 ((rd_T105 l0 a1).f0.f2), .int .i64 ((rd_T105 l0 a1).f0.f3.f0), .int .i64 ((rd_T105 l0 a1).f0.f3.f1), .int .i64 ((rd_T105 l0 a1).f0.f4.f0), .int .i64 ((rd_T105 l0 a1).f0.f4.f1), .int .i64 ((rd_T105 l0 a1).f0.f5), .int .i64 ((rd_T105 l0 a1).f0.f6)] 46 (0, 0)) (bk_ BK128) hb); replace HB := hbs_ hb; clear hb))
      repeat (go_quiet (first | (go_at_call 115; (with_reducible refine (spec_CredOk.calls k ((rd_T105 l0 a1).f0.f0) ((rd_T105 l0 a1).f0.f1.f0) ((rd_T105 l0 a1).f0.f1.f1) ((rd_T105 l0 a1).f0.f2) ((rd_T105 l0 a1).f0.f3.f0) ((rd_T105 l0 a1).f0.f3.f1) ((rd_T105 l0 a1).f0.f4.f0) ((rd_T105 l0 a1).f0.f4.f1) ((rd_T105 l0 a1).f0.f5) ((rd_T105 l0 a1).f0.f6) false _ A13.out).mono ?_); rintro e w22 ⟨rfl, hb⟩; replace BK127 := Aside0.mk (blk_below (g := gb127) (o := .cells #[.int .i64 ((rd_T105 l0 a1).f0.f0), .int .i64 ((rd_T105 l0 a1).f0.f1.f0), .int .i64 ((rd_T105 l0 a1).f0.f1.f1), .int .i64 ((rd_T105 l0 a1).f0.f2), .int .i64 ((rd_T105 l0 a1).f0.f3.f0), .int .i64 ((rd_T105 l0 a1).f0.f3.f1), .int .i64 ((rd_T105 l0 a1).f0.f4.f0), .int .i64 ((rd_T105 l0 a1).f0.f4.f1), .int .i64 ((rd_T105 l0 a1).f0.f5), .int .i64 ((rd_T105 l0 a1).f0.f6), .int .i64 ((rd_T105 l0 a1).f1.f0.f0), .int .i64 ((rd_T105 l0 a1).f1.f0.f1), .int .i64 ((rd_T105 l0 a1).f1.f1), .slice A126_13 ((rd_T105 l0 a1).f2).length c126_13] 105 (0, 0)) (bk_ BK127) hb); replace BK128 := Aside0.mk (blk_below (g := gb128) (o := .cells #[.int .i64 ((rd_T105 l0 a1).f0.f0), .int .i64 ((rd_T105 l0 a1).f0.f1.f0), .int .i64 ((rd_T105 l0 a1).f0.f1.f1), .int .i64 ((rd_T105 l0 a1).f0.f2), .int .i64 ((rd_T105 l0 a1).f0.f3.f0), .int .i64 ((rd_T105 l0 a1).f0.f3.f1), .int .i64 ((rd_T105 l0 a1).f0.f4.f0), .int .i64 ((rd_T105 l0 a1).f0.f4.f1), .int .i64 ((rd_T105 l0 a1).f0.f5), .int .i64 ((rd_T105 l0 a1).f0.f6)] 46 (0, 0)) (bk_ BK128) hb); replace HB := hbs_ hb; clear hb)); try go_wp2_with (first | (go_at_call 115; (with_reducible refine (spec_CredOk.calls k ((rd_T105 l0 a1).f0.f0) ((rd_T105 l0 a1).f0.f1.f0) ((rd_T105 l0 a1).f0.f1.f1) ((rd_T105 l0 a1).f0.f2) ((rd_T105 l0 a1).f0.f3.f0) ((rd_T105 l0 a1).f0.f3.f1) ((rd_T105 l0 a1).f0.f4.f0) ((rd_T105 l0 a1).f0.f4.f1) ((rd_T105 l0 a1).f0.f5) ((rd_T105 l0 a1).f0.f6) false _ A13.out).mono ?_); rintro e w22 ⟨rfl, hb⟩; replace BK127 := Aside0.mk (blk_below (g := gb127) (o := .cells #[.int .i64 ((rd_T105 l0 a1).f0.f0), .int .i64 ((rd_T105 l0 a1).f0.f1.f0), .int .i64 ((rd_T105 l0 a1).f0.f1.f1), .int .i64 ((rd_T105 l0 a1).f0.f2), .int .i64 ((rd_T105 l0 a1).f0.f3.f0), .int .i64 ((rd_T105 l0 a1).f0.f3.f1), .int .i64 ((rd_T105 l0 a1).f0.f4.f0), .int .i64 ((rd_T105 l0 a1).f0.f4.f1), .int .i64 ((rd_T105 l0 a1).f0.f5), .int .i64 ((rd_T105 l0 a1).f0.f6), .int .i64 ((rd_T105 l0 a1).f1.f0.f0), .int .i64 ((rd_T105 l0 a1).f1.f0.f1), .int .i64 ((rd_T105 l0 a1).f1.f1), .slice A126_13 ((rd_T105 l0 a1).f2).length c126_13] 105 (0, 0)) (bk_ BK127) hb); replace BK128 := Aside0.mk (blk_below (g := gb128) (o := .cells #[.int .i64 ((rd_T105 l0 a1).f0.f0), .int .i64 ((rd_T105 l0 a1).f0.f1.f0), .int .i64 ((rd_T105 l0 a1).f0.f1.f1), .int .i64 ((rd_T105 l0 a1).f0.f2), .int .i64 ((rd_T105 l0 a1).f0.f3.f0), .int .i64 ((rd_T105 l0 a1).f0.f3.f1), .int .i64 ((rd_T105 l0 a1).f0.f4.f0), .int .i64 ((rd_T105 l0 a1).f0.f4.f1), .int .i64 ((rd_T105 l0 a1).f0.f5), .int .i64 ((rd_T105 l0 a1).f0.f6)] 46 (0, 0)) (bk_ BK128) hb); replace HB := hbs_ hb; clear hb)))
      go_meet
      case rel => exact ⟨_, (true), (by first | rfl | (simp; done) | (simp [*]; done)), H', ⟨by first | omega | exact Nat.le_refl _⟩, ⟨bk_ BK127⟩, ⟨bk_ BK128⟩, ⟨bl_⟩⟩
    case rest =>
     clear HC7
     try clear c1
     try clear p1
     try clear q1
     try clear hx1
     try clear c2
     try clear p2
     try clear c4
     try clear c5
     try clear c5b0
     try clear c6
     try clear c6b0
     try clear p6
     try clear c8
     try clear c11
     try clear c12
     try clear p12
     try clear q12
     try clear hx12
     try clear c14
     try clear c15
     try clear c20
     try clear hcz12
     try clear hcz16
     try clear hcz18
     try clear hcz19
     try clear hcz21
     try clear hcz9
     try clear hfz12
     try clear hfz16
     try clear hfz18
     try clear hfz19
     try clear hfz21
     try clear hfz9
     try clear hx126_0
     try clear hx126_1
     try clear hx126_10
     try clear hx126_11
     try clear hx126_12
     try clear hx126_13
     try clear hx126_2
     try clear hx126_3
     try clear hx126_4
     try clear hx126_5
     try clear hx126_6
     try clear hx126_7
     try clear hx126_8
     try clear hx126_9
     try clear p126
     try clear q126
     obtain ⟨kq, x31_6, rfl, HA, HJ6, BK127, BK128, HB⟩ := hcut
     cases kq with
     | zero => exact absurd HA.out (by simp [spec_StepOk.j0])
     | succ kj6 =>
      have H := HA.out
      clear HA
      simp only [spec_StepOk.j0] at H
      by_cases c23 : x31_6 = true
      ·subst c23
       replace H := ite_t_ H
       obtain rfl := Option.some.inj H
       go_wp2
       repeat (go_quiet (fail); try go_wp2)
       go_ret
       exact ⟨eq_, bl_⟩
      ·replace c23 := Bool.eq_false_iff.mpr c23
       subst c23
       replace H := ite_f_ H
       have H' := Aside0.mk H
       clear H
       go_wp2
       repeat (go_quiet (fail); try go_wp2)
       go_loopg [7] kj6 (fun kq v7 w' => ∃ (x7_2 : Int), v7 = .int .i64 x7_2 ∧ Aside0 (spec_StepOk.l0 kq l0 a1 x7_2 ((rd_T105 l0 a1).f0.f0) ((rd_T105 l0 a1).f0.f1.f0) ((rd_T105 l0 a1).f0.f1.f1) ((rd_T105 l0 a1).f0.f2) ((rd_T105 l0 a1).f0.f3.f0) ((rd_T105 l0 a1).f0.f3.f1) ((rd_T105 l0 a1).f0.f4.f0) ((rd_T105 l0 a1).f0.f4.f1) ((rd_T105 l0 a1).f0.f5) ((rd_T105 l0 a1).f0.f6) ((rd_T105 l0 a1).f1.f0.f0) ((rd_T105 l0 a1).f1.f0.f1) ((rd_T105 l0 a1).f1.f1) ((rd_T105 l0 a1).f2) ((rd_T105 l0 a1).f0.f0) ((rd_T105 l0 a1).f0.f1.f0) ((rd_T105 l0 a1).f0.f1.f1) ((rd_T105 l0 a1).f0.f2) ((rd_T105 l0 a1).f0.f3.f0) ((rd_T105 l0 a1).f0.f3.f1) ((rd_T105 l0 a1).f0.f4.f0) ((rd_T105 l0 a1).f0.f4.f1) ((rd_T105 l0 a1).f0.f5) ((rd_T105 l0 a1).f0.f6) = some r) ∧ Aside0 (kq ≤ kj6) ∧ Aside0 (w'.heap[gb127]? = some (.cells #[.int .i64 ((rd_T105 l0 a1).f0.f0), .int .i64 ((rd_T105 l0 a1).f0.f1.f0), .int .i64 ((rd_T105 l0 a1).f0.f1.f1), .int .i64 ((rd_T105 l0 a1).f0.f2), .int .i64 ((rd_T105 l0 a1).f0.f3.f0), .int .i64 ((rd_T105 l0 a1).f0.f3.f1), .int .i64 ((rd_T105 l0 a1).f0.f4.f0), .int .i64 ((rd_T105 l0 a1).f0.f4.f1), .int .i64 ((rd_T105 l0 a1).f0.f5), .int .i64 ((rd_T105 l0 a1).f0.f6), .int .i64 ((rd_T105 l0 a1).f1.f0.f0), .int .i64 ((rd_T105 l0 a1).f1.f0.f1), .int .i64 ((rd_T105 l0 a1).f1.f1), (.slice A126_13 ((rd_T105 l0 a1).f2).length c126_13)] 105 (0, 0))) ∧ Aside0 (w'.heap[gb128]? = some (.cells #[.int .i64 ((rd_T105 l0 a1).f0.f0), .int .i64 ((rd_T105 l0 a1).f0.f1.f0), .int .i64 ((rd_T105 l0 a1).f0.f1.f1), .int .i64 ((rd_T105 l0 a1).f0.f2), .int .i64 ((rd_T105 l0 a1).f0.f3.f0), .int .i64 ((rd_T105 l0 a1).f0.f3.f1), .int .i64 ((rd_T105 l0 a1).f0.f4.f0), .int .i64 ((rd_T105 l0 a1).f0.f4.f1), .int .i64 ((rd_T105 l0 a1).f0.f5), .int .i64 ((rd_T105 l0 a1).f0.f6)] 46 (0, 0))) ∧ Aside0 (Below w.heap.size w w'))
       case atStart => exact ⟨(0), (by first | rfl | (simp; done) | (simp [*]; done)), H', ⟨Nat.le_refl _⟩, ⟨bk_ BK127⟩, ⟨bk_ BK128⟩, ⟨bl_⟩⟩
       case round =>
        clear H'
        try clear c1
        try clear p1
        try clear q1
        try clear hx1
        try clear c2
        try clear p2
        try clear c4
        try clear c5
        try clear c5b0
        try clear c6
        try clear c6b0
        try clear p6
        try clear c8
        try clear c11
        try clear c12
        try clear p12
        try clear q12
        try clear hx12
        try clear c14
        try clear c15
        try clear c20
        try clear c23
        try clear hcz12
        try clear hcz16
        try clear hcz18
        try clear hcz19
        try clear hcz21
        try clear hcz9
        try clear hfz12
        try clear hfz16
        try clear hfz18
        try clear hfz19
        try clear hfz21
        try clear hfz9
        try clear hx126_0
        try clear hx126_1
        try clear hx126_10
        try clear hx126_11
        try clear hx126_12
        try clear hx126_13
        try clear hx126_2
        try clear hx126_3
        try clear hx126_4
        try clear hx126_5
        try clear hx126_6
        try clear hx126_7
        try clear hx126_8
        try clear hx126_9
        try clear p1
        try clear p12
        try clear p126
        try clear p2
        try clear p6
        try clear q1
        try clear q12
        try clear q126
        obtain ⟨x7_2, rfl, HA, HK2, BK127, BK128, HB⟩ := hrel
        cases gk with
        | zero => exact absurd HA.out (by simp [spec_StepOk.l0])
        | succ k2 =>
         have H := HA.out
         clear HA
         simp only [spec_StepOk.l0] at H
         by_cases c24 : x7_2 < (((rd_T105 l0 a1).f2).length : Int)
         ·rw [if_pos c24] at H
          have c24b0 : decide (x7_2 < (((rd_T105 l0 a1).f2).length : Int)) = true := decide_eq_true c24
          clear c24
          by_cases c25 : 0 ≤ x7_2
          ·rw [if_pos c25] at H
           have c25b0 : decide (0 ≤ x7_2) = true := decide_eq_true c25
           clear c25
           obtain ⟨t131, A26, H⟩ := bindE_ H
           by_cases c27 : t131 = true
           ·subst c27
            replace H := ite_t_ H
            have H' := Aside0.mk H
            clear H
            have hnb28 := NB127_128.out
            have hnc28 := NB128_127.out
            have hcz29 := blk_cell BK127.out
            have hfz29 := blk_frozen BK127.out
            have p130 : 0 ≤ (x7_2 : Int) := of_decide_eq_true (by first | (with_reducible assumption) | assumption)
            have q130 : x7_2 < (((rd_T105 l0 a1).f2).length : Int) := of_decide_eq_true (by first | (with_reducible assumption) | assumption)
            obtain ⟨ad130, e130, hx130_0⟩ := Kd.at_int (Kd.C_below HR126_13.out HB.out) x7_2 p130 q130
            cases e130
            replace p130 := eq_true p130
            replace q130 := eq_true q130
            go_wp2_with (first | (go_at_call 90; (with_reducible refine (spec_l01In.calls (rd ((rd_T105 l0 a1).f2) x7_2) 0 (wrap64 (a1 - 1)) true _ A26.out).mono ?_); rintro e w' ⟨rfl, ⟨nd, rfl⟩⟩; (try first | exact ⟨rfl, _, World.drewN_drewN _ _ _⟩ | exact ⟨rfl, _, Eq.trans (World.drewN_drewN _ _ _) (congrArg (World.drewN _) (Nat.add_assoc _ _ _))⟩)))
            repeat (go_quiet (first | (go_at_call 90; (with_reducible refine (spec_l01In.calls (rd ((rd_T105 l0 a1).f2) x7_2) 0 (wrap64 (a1 - 1)) true _ A26.out).mono ?_); rintro e w' ⟨rfl, ⟨nd, rfl⟩⟩; (try first | exact ⟨rfl, _, World.drewN_drewN _ _ _⟩ | exact ⟨rfl, _, Eq.trans (World.drewN_drewN _ _ _) (congrArg (World.drewN _) (Nat.add_assoc _ _ _))⟩))); try go_wp2_with (first | (go_at_call 90; (with_reducible refine (spec_l01In.calls (rd ((rd_T105 l0 a1).f2) x7_2) 0 (wrap64 (a1 - 1)) true _ A26.out).mono ?_); rintro e w' ⟨rfl, ⟨nd, rfl⟩⟩; (try first | exact ⟨rfl, _, World.drewN_drewN _ _ _⟩ | exact ⟨rfl, _, Eq.trans (World.drewN_drewN _ _ _) (congrArg (World.drewN _) (Nat.add_assoc _ _ _))⟩))))
            go_roundg k2
            case measure => have := HJ6.out; have := HK2.out; omega
            case rel => exact ⟨(wrap64 (x7_2 + 1)), (by first | rfl | (simp; done) | (simp [*]; done)), H', ⟨by have := HJ6.out; have := HK2.out; omega⟩, ⟨bk_ BK127⟩, ⟨bk_ BK128⟩, ⟨bl_⟩⟩
           ·replace c27 := Bool.eq_false_iff.mpr c27
            subst c27
            replace H := ite_f_ H
            obtain rfl := Option.some.inj H
            have hnb30 := NB127_128.out
            have hnc30 := NB128_127.out
            have hcz31 := blk_cell BK127.out
            have hfz31 := blk_frozen BK127.out
            have p130 : 0 ≤ (x7_2 : Int) := of_decide_eq_true (by first | (with_reducible assumption) | assumption)
            have q130 : x7_2 < (((rd_T105 l0 a1).f2).length : Int) := of_decide_eq_true (by first | (with_reducible assumption) | assumption)
            obtain ⟨ad130, e130, hx130_0⟩ := Kd.at_int (Kd.C_below HR126_13.out HB.out) x7_2 p130 q130
            cases e130
            replace p130 := eq_true p130
            replace q130 := eq_true q130
            go_wp2_with (first | (go_at_call 90; (with_reducible refine (spec_l01In.calls (rd ((rd_T105 l0 a1).f2) x7_2) 0 (wrap64 (a1 - 1)) false _ A26.out).mono ?_); rintro e w' ⟨rfl, ⟨nd, rfl⟩⟩; (try first | exact ⟨rfl, _, World.drewN_drewN _ _ _⟩ | exact ⟨rfl, _, Eq.trans (World.drewN_drewN _ _ _) (congrArg (World.drewN _) (Nat.add_assoc _ _ _))⟩)))
            repeat (go_quiet (first | (go_at_call 90; (with_reducible refine (spec_l01In.calls (rd ((rd_T105 l0 a1).f2) x7_2) 0 (wrap64 (a1 - 1)) false _ A26.out).mono ?_); rintro e w' ⟨rfl, ⟨nd, rfl⟩⟩; (try first | exact ⟨rfl, _, World.drewN_drewN _ _ _⟩ | exact ⟨rfl, _, Eq.trans (World.drewN_drewN _ _ _) (congrArg (World.drewN _) (Nat.add_assoc _ _ _))⟩))); try go_wp2_with (first | (go_at_call 90; (with_reducible refine (spec_l01In.calls (rd ((rd_T105 l0 a1).f2) x7_2) 0 (wrap64 (a1 - 1)) false _ A26.out).mono ?_); rintro e w' ⟨rfl, ⟨nd, rfl⟩⟩; (try first | exact ⟨rfl, _, World.drewN_drewN _ _ _⟩ | exact ⟨rfl, _, Eq.trans (World.drewN_drewN _ _ _) (congrArg (World.drewN _) (Nat.add_assoc _ _ _))⟩))))
            go_ret
            exact ⟨eq_, bl_⟩
          ·rw [if_neg c25] at H
           exact absurd H (by simp)
         ·rw [if_neg c24] at H
          have c24b0 : decide (x7_2 < (((rd_T105 l0 a1).f2).length : Int)) = false := decide_eq_false c24
          clear c24
          by_cases c32 : ((rd_T105 l0 a1).f0.f0) = 1
          ·rw [if_pos c32] at H
           have c32b0 : (((rd_T105 l0 a1).f0.f0) == 1) = true := beq_iff_eq.mpr c32
           have c32b1 : (((rd_T105 l0 a1).f0.f0) != 1) = false := bne_eq_false_iff_eq.mpr c32
           clear c32
           by_cases c33 : ((rd_T105 l0 a1).f1.f1) = ((rd_T105 l0 a1).f0.f2)
           ·rw [if_pos c33] at H
            have c33b0 : (((rd_T105 l0 a1).f1.f1) == ((rd_T105 l0 a1).f0.f2)) = true := beq_iff_eq.mpr c33
            have c33b1 : (((rd_T105 l0 a1).f1.f1) != ((rd_T105 l0 a1).f0.f2)) = false := bne_eq_false_iff_eq.mpr c33
            clear c33
            obtain rfl := Option.some.inj H
            have hnb34 := NB127_128.out
            have hnc34 := NB128_127.out
            have hcz35 := blk_cell BK127.out
            have hfz35 := blk_frozen BK127.out
            have hcz36 := blk_cell BK128.out
            have hfz36 := blk_frozen BK128.out
            go_wp2
            repeat (go_quiet (fail); try go_wp2)
            go_ret
            exact ⟨eq_, bl_⟩
           ·rw [if_neg c33] at H
            have c33b0 : (((rd_T105 l0 a1).f1.f1) == ((rd_T105 l0 a1).f0.f2)) = false := beq_eq_false_iff_ne.mpr c33
            have c33b1 : (((rd_T105 l0 a1).f1.f1) != ((rd_T105 l0 a1).f0.f2)) = true := bne_iff_ne.mpr c33
            obtain rfl := Option.some.inj H
            have hnb37 := NB127_128.out
            have hnc37 := NB128_127.out
            have hcz38 := blk_cell BK127.out
            have hfz38 := blk_frozen BK127.out
            have hcz39 := blk_cell BK128.out
            have hfz39 := blk_frozen BK128.out
            go_wp2
            repeat (go_quiet (fail); try go_wp2)
            go_ret
            exact ⟨eq_, bl_⟩
          ·rw [if_neg c32] at H
           have c32b0 : (((rd_T105 l0 a1).f0.f0) == 1) = false := beq_eq_false_iff_ne.mpr c32
           have c32b1 : (((rd_T105 l0 a1).f0.f0) != 1) = true := bne_iff_ne.mpr c32
           by_cases c40 : ((rd_T105 l0 a1).f0.f0) = 2
           ·rw [if_pos c40] at H
            have c40b0 : (((rd_T105 l0 a1).f0.f0) == 2) = true := beq_iff_eq.mpr c40
            have c40b1 : (((rd_T105 l0 a1).f0.f0) != 2) = false := bne_eq_false_iff_eq.mpr c40
            clear c40
            by_cases c41 : (((rd_T105 l0 a1).f2).length : Int) = 1
            ·rw [if_pos c41] at H
             have c41b0 : ((((rd_T105 l0 a1).f2).length : Int) == 1) = true := beq_iff_eq.mpr c41
             have c41b1 : ((((rd_T105 l0 a1).f2).length : Int) != 1) = false := bne_eq_false_iff_eq.mpr c41
             clear c41
             obtain ⟨t132, A42, H⟩ := bindE_ H
             obtain rfl := Option.some.inj H
             have hnb43 := NB127_128.out
             have hnc43 := NB128_127.out
             have hcz44 := blk_cell BK127.out
             have hfz44 := blk_frozen BK127.out
             have hcz45 := blk_cell BK128.out
             have hfz45 := blk_frozen BK128.out
             go_wp2_with (first | (go_at_call 126; (with_reducible refine (spec_l07Shown.calls k2 _ _ l0 a1 ((rd_T105 l0 a1).f0.f3.f0) ((rd_T105 l0 a1).f0.f3.f1) ((rd_T105 l0 a1).f1.f1) t132 _ ?side1 ?side2 A42.out).mono ?_); (case side1 => repeat (first | exact (Kd.C_below HR0.out HB.out) | (with_reducible refine Kd.C_alloc ?_ _) | (with_reducible refine Kd.C_drewN ?_ _) | (with_reducible refine Kd.C_drew ?_))); (case side2 => exact HC0.out); rintro e w46 ⟨rfl, hb⟩; replace BK127 := bkb_ BK127 hb; replace BK128 := bkb_ BK128 hb; replace HB := hbs_ hb; clear hb))
             repeat (go_quiet (first | (go_at_call 126; (with_reducible refine (spec_l07Shown.calls k2 _ _ l0 a1 ((rd_T105 l0 a1).f0.f3.f0) ((rd_T105 l0 a1).f0.f3.f1) ((rd_T105 l0 a1).f1.f1) t132 _ ?side1 ?side2 A42.out).mono ?_); (case side1 => repeat (first | exact (Kd.C_below HR0.out HB.out) | (with_reducible refine Kd.C_alloc ?_ _) | (with_reducible refine Kd.C_drewN ?_ _) | (with_reducible refine Kd.C_drew ?_))); (case side2 => exact HC0.out); rintro e w46 ⟨rfl, hb⟩; replace BK127 := bkb_ BK127 hb; replace BK128 := bkb_ BK128 hb; replace HB := hbs_ hb; clear hb)); try go_wp2_with (first | (go_at_call 126; (with_reducible refine (spec_l07Shown.calls k2 _ _ l0 a1 ((rd_T105 l0 a1).f0.f3.f0) ((rd_T105 l0 a1).f0.f3.f1) ((rd_T105 l0 a1).f1.f1) t132 _ ?side1 ?side2 A42.out).mono ?_); (case side1 => repeat (first | exact (Kd.C_below HR0.out HB.out) | (with_reducible refine Kd.C_alloc ?_ _) | (with_reducible refine Kd.C_drewN ?_ _) | (with_reducible refine Kd.C_drew ?_))); (case side2 => exact HC0.out); rintro e w46 ⟨rfl, hb⟩; replace BK127 := bkb_ BK127 hb; replace BK128 := bkb_ BK128 hb; replace HB := hbs_ hb; clear hb)))
             go_ret
             exact ⟨eq_, bl_⟩
            ·rw [if_neg c41] at H
             have c41b0 : ((((rd_T105 l0 a1).f2).length : Int) == 1) = false := beq_eq_false_iff_ne.mpr c41
             have c41b1 : ((((rd_T105 l0 a1).f2).length : Int) != 1) = true := bne_iff_ne.mpr c41
             obtain rfl := Option.some.inj H
             have hnb47 := NB127_128.out
             have hnc47 := NB128_127.out
             have hcz48 := blk_cell BK127.out
             have hfz48 := blk_frozen BK127.out
             have hcz49 := blk_cell BK128.out
             have hfz49 := blk_frozen BK128.out
             go_wp2
             repeat (go_quiet (fail); try go_wp2)
             go_ret
             exact ⟨eq_, bl_⟩
           ·rw [if_neg c40] at H
            have c40b0 : (((rd_T105 l0 a1).f0.f0) == 2) = false := beq_eq_false_iff_ne.mpr c40
            have c40b1 : (((rd_T105 l0 a1).f0.f0) != 2) = true := bne_iff_ne.mpr c40
            by_cases c50 : ((rd_T105 l0 a1).f0.f0) = 4
            ·rw [if_pos c50] at H
             have c50b0 : (((rd_T105 l0 a1).f0.f0) == 4) = true := beq_iff_eq.mpr c50
             have c50b1 : (((rd_T105 l0 a1).f0.f0) != 4) = false := bne_eq_false_iff_eq.mpr c50
             clear c50
             by_cases c51 : (((rd_T105 l0 a1).f2).length : Int) = 2
             ·rw [if_pos c51] at H
              have c51b0 : ((((rd_T105 l0 a1).f2).length : Int) == 2) = true := beq_iff_eq.mpr c51
              have c51b1 : ((((rd_T105 l0 a1).f2).length : Int) != 2) = false := bne_eq_false_iff_eq.mpr c51
              clear c51
              by_cases c52 : 0 < (((rd_T105 l0 a1).f2).length : Int)
              ·rw [if_pos c52] at H
               have c52b0 : decide (0 < (((rd_T105 l0 a1).f2).length : Int)) = true := decide_eq_true c52
               have c52b1 : decide (0 < ((rd_T105 l0 a1).f2).length) = true := decide_eq_true (by omega)
               clear c52
               by_cases c53 : 0 ≤ (rd ((rd_T105 l0 a1).f2) 0)
               ·rw [if_pos c53] at H
                have c53b0 : decide (0 ≤ (rd ((rd_T105 l0 a1).f2) 0)) = true := decide_eq_true c53
                clear c53
                by_cases c54 : (rd ((rd_T105 l0 a1).f2) 0) < (l0.length : Int)
                ·rw [if_pos c54] at H
                 have c54b0 : decide ((rd ((rd_T105 l0 a1).f2) 0) < (l0.length : Int)) = true := decide_eq_true c54
                 clear c54
                 by_cases c55 : ((((rd_T105 l0 (rd ((rd_T105 l0 a1).f2) 0)).f1.f0.f0) == ((rd_T105 l0 a1).f0.f3.f0) && (((rd_T105 l0 (rd ((rd_T105 l0 a1).f2) 0)).f1.f0.f1) == ((rd_T105 l0 a1).f0.f3.f1))) && (((rd_T105 l0 (rd ((rd_T105 l0 a1).f2) 0)).f1.f1) == ((rd_T105 l0 a1).f1.f1))) = true
                 ·rw [if_pos c55] at H
                  have c55b0 : ((((rd_T105 l0 (rd ((rd_T105 l0 a1).f2) 0)).f1.f0.f0) == ((rd_T105 l0 a1).f0.f3.f0) && (((rd_T105 l0 (rd ((rd_T105 l0 a1).f2) 0)).f1.f0.f1) == ((rd_T105 l0 a1).f0.f3.f1))) && (((rd_T105 l0 (rd ((rd_T105 l0 a1).f2) 0)).f1.f1) == ((rd_T105 l0 a1).f1.f1))) = true := c55
                  clear c55
                  by_cases c56 : 1 < (((rd_T105 l0 a1).f2).length : Int)
                  ·rw [if_pos c56] at H
                   have c56b0 : decide (1 < (((rd_T105 l0 a1).f2).length : Int)) = true := decide_eq_true c56
                   have c56b1 : decide (1 < ((rd_T105 l0 a1).f2).length) = true := decide_eq_true (by omega)
                   clear c56
                   by_cases c57 : 0 ≤ (rd ((rd_T105 l0 a1).f2) 1)
                   ·rw [if_pos c57] at H
                    have c57b0 : decide (0 ≤ (rd ((rd_T105 l0 a1).f2) 1)) = true := decide_eq_true c57
                    clear c57
                    by_cases c58 : (rd ((rd_T105 l0 a1).f2) 1) < (l0.length : Int)
                    ·rw [if_pos c58] at H
                     have c58b0 : decide ((rd ((rd_T105 l0 a1).f2) 1) < (l0.length : Int)) = true := decide_eq_true c58
                     clear c58
                     obtain rfl := Option.some.inj H
                     have hnb59 := NB127_128.out
                     have hnc59 := NB128_127.out
                     have hcz60 := blk_cell BK127.out
                     have hfz60 := blk_frozen BK127.out
                     have hcz61 := blk_cell BK128.out
                     have hfz61 := blk_frozen BK128.out
                     have p133 : 0 ≤ (0 : Int) := (by omega)
                     have q133 : 0 < (((rd_T105 l0 a1).f2).length : Int) := of_decide_eq_true (by first | (with_reducible assumption) | assumption)
                     obtain ⟨ad133, e133, hx133_0⟩ := Kd.at_int HR126_13.out 0 p133 q133
                     cases e133
                     have qi133 : (0 < ((rd_T105 l0 a1).f2).length) = True := eq_true (by omega)
                     (try rw [show ((0 : Int)).toNat = 0 from rfl] at hx133_0)
                     (try rw [Addr.add_zero'] at hx133_0)
                     replace hx133_0 := cb_ HB hx133_0
                     replace p133 := eq_true p133
                     replace q133 := eq_true q133
                     have p134 : 0 ≤ ((rd ((rd_T105 l0 a1).f2) 0) : Int) := of_decide_eq_true (by first | (with_reducible assumption) | assumption)
                     have q134 : (rd ((rd_T105 l0 a1).f2) 0) < (l0.length : Int) := of_decide_eq_true (by first | (with_reducible assumption) | assumption)
                     obtain ⟨ad134, A134_13, c134_13, e134, hx134_0, hx134_1, hx134_2, hx134_3, hx134_4, hx134_5, hx134_6, hx134_7, hx134_8, hx134_9, hx134_10, hx134_11, hx134_12, hx134_13, hl134_13, hi134_13⟩ := at_T105 HR0.out (rd ((rd_T105 l0 a1).f2) 0) p134 q134
                     obtain rfl : ad126 = ad134 := (by injection e134)
                     replace hx134_0 := cb_ HB hx134_0
                     replace hx134_1 := cb_ HB hx134_1
                     replace hx134_2 := cb_ HB hx134_2
                     replace hx134_3 := cb_ HB hx134_3
                     replace hx134_4 := cb_ HB hx134_4
                     replace hx134_5 := cb_ HB hx134_5
                     replace hx134_6 := cb_ HB hx134_6
                     replace hx134_7 := cb_ HB hx134_7
                     replace hx134_8 := cb_ HB hx134_8
                     replace hx134_9 := cb_ HB hx134_9
                     replace hx134_10 := cb_ HB hx134_10
                     replace hx134_11 := cb_ HB hx134_11
                     replace hx134_12 := cb_ HB hx134_12
                     replace hx134_13 := cb_ HB hx134_13
                     have HR134_13 := Aside0.mk hi134_13
                     have HC134_13 := Aside0.mk hl134_13
                     clear hi134_13 hl134_13
                     replace p134 := eq_true p134
                     replace q134 := eq_true q134
                     have p135 : 0 ≤ (1 : Int) := (by omega)
                     have q135 : 1 < (((rd_T105 l0 a1).f2).length : Int) := of_decide_eq_true (by first | (with_reducible assumption) | assumption)
                     obtain ⟨ad135, e135, hx135_0⟩ := Kd.at_int HR126_13.out 1 p135 q135
                     obtain rfl : ad133 = ad135 := (by injection e135)
                     (try simp only [show (1 : Int).toNat = 1 from rfl, Nat.reduceMul, Nat.reduceEqDiff, Go.Addr.add, ↓reduceIte] at hx135_0)
                     have qi135 : (1 < ((rd_T105 l0 a1).f2).length) = True := eq_true (by omega)
                     (try rw [show ((1 : Int)).toNat = 1 from rfl] at hx135_0)
                     replace hx135_0 := cb_ HB hx135_0
                     replace p135 := eq_true p135
                     replace q135 := eq_true q135
                     have p136 : 0 ≤ ((rd ((rd_T105 l0 a1).f2) 1) : Int) := of_decide_eq_true (by first | (with_reducible assumption) | assumption)
                     have q136 : (rd ((rd_T105 l0 a1).f2) 1) < (l0.length : Int) := of_decide_eq_true (by first | (with_reducible assumption) | assumption)
                     obtain ⟨ad136, A136_13, c136_13, e136, hx136_0, hx136_1, hx136_2, hx136_3, hx136_4, hx136_5, hx136_6, hx136_7, hx136_8, hx136_9, hx136_10, hx136_11, hx136_12, hx136_13, hl136_13, hi136_13⟩ := at_T105 HR0.out (rd ((rd_T105 l0 a1).f2) 1) p136 q136
                     obtain rfl : ad126 = ad136 := (by injection e136)
                     replace hx136_0 := cb_ HB hx136_0
                     replace hx136_1 := cb_ HB hx136_1
                     replace hx136_2 := cb_ HB hx136_2
                     replace hx136_3 := cb_ HB hx136_3
                     replace hx136_4 := cb_ HB hx136_4
                     replace hx136_5 := cb_ HB hx136_5
                     replace hx136_6 := cb_ HB hx136_6
                     replace hx136_7 := cb_ HB hx136_7
                     replace hx136_8 := cb_ HB hx136_8
                     replace hx136_9 := cb_ HB hx136_9
                     replace hx136_10 := cb_ HB hx136_10
                     replace hx136_11 := cb_ HB hx136_11
                     replace hx136_12 := cb_ HB hx136_12
                     replace hx136_13 := cb_ HB hx136_13
                     have HR136_13 := Aside0.mk hi136_13
                     have HC136_13 := Aside0.mk hl136_13
                     clear hi136_13 hl136_13
                     replace p136 := eq_true p136
                     replace q136 := eq_true q136
                     go_wp2
                     repeat (go_quiet (fail); try go_wp2)
                     go_ret
                     exact ⟨eq_, bl_⟩
                    ·rw [if_neg c58] at H
                     exact absurd H (by simp)
                   ·rw [if_neg c57] at H
                    exact absurd H (by simp)
                  ·rw [if_neg c56] at H
                   exact absurd H (by simp)
                 ·rw [if_neg c55] at H
                  have c55b0 : ((((rd_T105 l0 (rd ((rd_T105 l0 a1).f2) 0)).f1.f0.f0) == ((rd_T105 l0 a1).f0.f3.f0) && (((rd_T105 l0 (rd ((rd_T105 l0 a1).f2) 0)).f1.f0.f1) == ((rd_T105 l0 a1).f0.f3.f1))) && (((rd_T105 l0 (rd ((rd_T105 l0 a1).f2) 0)).f1.f1) == ((rd_T105 l0 a1).f1.f1))) = false := by simpa using c55
                  clear c55
                  obtain rfl := Option.some.inj H
                  have hnb62 := NB127_128.out
                  have hnc62 := NB128_127.out
                  have hcz63 := blk_cell BK127.out
                  have hfz63 := blk_frozen BK127.out
                  have hcz64 := blk_cell BK128.out
                  have hfz64 := blk_frozen BK128.out
                  have p133 : 0 ≤ (0 : Int) := (by omega)
                  have q133 : 0 < (((rd_T105 l0 a1).f2).length : Int) := of_decide_eq_true (by first | (with_reducible assumption) | assumption)
                  obtain ⟨ad133, e133, hx133_0⟩ := Kd.at_int HR126_13.out 0 p133 q133
                  cases e133
                  have qi133 : (0 < ((rd_T105 l0 a1).f2).length) = True := eq_true (by omega)
                  (try rw [show ((0 : Int)).toNat = 0 from rfl] at hx133_0)
                  (try rw [Addr.add_zero'] at hx133_0)
                  replace hx133_0 := cb_ HB hx133_0
                  replace p133 := eq_true p133
                  replace q133 := eq_true q133
                  have p134 : 0 ≤ ((rd ((rd_T105 l0 a1).f2) 0) : Int) := of_decide_eq_true (by first | (with_reducible assumption) | assumption)
                  have q134 : (rd ((rd_T105 l0 a1).f2) 0) < (l0.length : Int) := of_decide_eq_true (by first | (with_reducible assumption) | assumption)
                  obtain ⟨ad134, A134_13, c134_13, e134, hx134_0, hx134_1, hx134_2, hx134_3, hx134_4, hx134_5, hx134_6, hx134_7, hx134_8, hx134_9, hx134_10, hx134_11, hx134_12, hx134_13, hl134_13, hi134_13⟩ := at_T105 HR0.out (rd ((rd_T105 l0 a1).f2) 0) p134 q134
                  obtain rfl : ad126 = ad134 := (by injection e134)
                  replace hx134_0 := cb_ HB hx134_0
                  replace hx134_1 := cb_ HB hx134_1
                  replace hx134_2 := cb_ HB hx134_2
                  replace hx134_3 := cb_ HB hx134_3
                  replace hx134_4 := cb_ HB hx134_4
                  replace hx134_5 := cb_ HB hx134_5
                  replace hx134_6 := cb_ HB hx134_6
                  replace hx134_7 := cb_ HB hx134_7
                  replace hx134_8 := cb_ HB hx134_8
                  replace hx134_9 := cb_ HB hx134_9
                  replace hx134_10 := cb_ HB hx134_10
                  replace hx134_11 := cb_ HB hx134_11
                  replace hx134_12 := cb_ HB hx134_12
                  replace hx134_13 := cb_ HB hx134_13
                  have HR134_13 := Aside0.mk hi134_13
                  have HC134_13 := Aside0.mk hl134_13
                  clear hi134_13 hl134_13
                  replace p134 := eq_true p134
                  replace q134 := eq_true q134
                  go_wp2
                  repeat (go_quiet (fail); try go_wp2)
                  go_ret
                  exact ⟨eq_, bl_⟩
                ·rw [if_neg c54] at H
                 exact absurd H (by simp)
               ·rw [if_neg c53] at H
                exact absurd H (by simp)
              ·rw [if_neg c52] at H
               exact absurd H (by simp)
             ·rw [if_neg c51] at H
              have c51b0 : ((((rd_T105 l0 a1).f2).length : Int) == 2) = false := beq_eq_false_iff_ne.mpr c51
              have c51b1 : ((((rd_T105 l0 a1).f2).length : Int) != 2) = true := bne_iff_ne.mpr c51
              obtain rfl := Option.some.inj H
              have hnb65 := NB127_128.out
              have hnc65 := NB128_127.out
              have hcz66 := blk_cell BK127.out
              have hfz66 := blk_frozen BK127.out
              have hcz67 := blk_cell BK128.out
              have hfz67 := blk_frozen BK128.out
              go_wp2
              repeat (go_quiet (fail); try go_wp2)
              go_ret
              exact ⟨eq_, bl_⟩
            ·rw [if_neg c50] at H
             have c50b0 : (((rd_T105 l0 a1).f0.f0) == 4) = false := beq_eq_false_iff_ne.mpr c50
             have c50b1 : (((rd_T105 l0 a1).f0.f0) != 4) = true := bne_iff_ne.mpr c50
             by_cases c68 : (((rd_T105 l0 a1).f2).length : Int) = 2
             ·rw [if_pos c68] at H
              have c68b0 : ((((rd_T105 l0 a1).f2).length : Int) == 2) = true := beq_iff_eq.mpr c68
              have c68b1 : ((((rd_T105 l0 a1).f2).length : Int) != 2) = false := bne_eq_false_iff_eq.mpr c68
              clear c68
              by_cases c69 : 0 < (((rd_T105 l0 a1).f2).length : Int)
              ·rw [if_pos c69] at H
               have c69b0 : decide (0 < (((rd_T105 l0 a1).f2).length : Int)) = true := decide_eq_true c69
               have c69b1 : decide (0 < ((rd_T105 l0 a1).f2).length) = true := decide_eq_true (by omega)
               clear c69
               by_cases c70 : 0 ≤ (rd ((rd_T105 l0 a1).f2) 0)
               ·rw [if_pos c70] at H
                have c70b0 : decide (0 ≤ (rd ((rd_T105 l0 a1).f2) 0)) = true := decide_eq_true c70
                clear c70
                by_cases c71 : (rd ((rd_T105 l0 a1).f2) 0) < (l0.length : Int)
                ·rw [if_pos c71] at H
                 have c71b0 : decide ((rd ((rd_T105 l0 a1).f2) 0) < (l0.length : Int)) = true := decide_eq_true c71
                 clear c71
                 by_cases c72 : (!(((rd_T105 l0 (rd ((rd_T105 l0 a1).f2) 0)).f1.f0.f0) == ((rd_T105 l0 a1).f0.f3.f0)) || (!(((rd_T105 l0 (rd ((rd_T105 l0 a1).f2) 0)).f1.f0.f1) == ((rd_T105 l0 a1).f0.f3.f1)))) = true
                 ·rw [if_pos c72] at H
                  have c72b0 : (!(((rd_T105 l0 (rd ((rd_T105 l0 a1).f2) 0)).f1.f0.f0) == ((rd_T105 l0 a1).f0.f3.f0)) || (!(((rd_T105 l0 (rd ((rd_T105 l0 a1).f2) 0)).f1.f0.f1) == ((rd_T105 l0 a1).f0.f3.f1)))) = true := c72
                  clear c72
                  obtain rfl := Option.some.inj H
                  have hnb73 := NB127_128.out
                  have hnc73 := NB128_127.out
                  have hcz74 := blk_cell BK127.out
                  have hfz74 := blk_frozen BK127.out
                  have hcz75 := blk_cell BK128.out
                  have hfz75 := blk_frozen BK128.out
                  have p137 : 0 ≤ (0 : Int) := (by omega)
                  have q137 : 0 < (((rd_T105 l0 a1).f2).length : Int) := of_decide_eq_true (by first | (with_reducible assumption) | assumption)
                  obtain ⟨ad137, e137, hx137_0⟩ := Kd.at_int HR126_13.out 0 p137 q137
                  cases e137
                  have qi137 : (0 < ((rd_T105 l0 a1).f2).length) = True := eq_true (by omega)
                  (try rw [show ((0 : Int)).toNat = 0 from rfl] at hx137_0)
                  (try rw [Addr.add_zero'] at hx137_0)
                  replace hx137_0 := cb_ HB hx137_0
                  replace p137 := eq_true p137
                  replace q137 := eq_true q137
                  have p138 : 0 ≤ ((rd ((rd_T105 l0 a1).f2) 0) : Int) := of_decide_eq_true (by first | (with_reducible assumption) | assumption)
                  have q138 : (rd ((rd_T105 l0 a1).f2) 0) < (l0.length : Int) := of_decide_eq_true (by first | (with_reducible assumption) | assumption)
                  obtain ⟨ad138, A138_13, c138_13, e138, hx138_0, hx138_1, hx138_2, hx138_3, hx138_4, hx138_5, hx138_6, hx138_7, hx138_8, hx138_9, hx138_10, hx138_11, hx138_12, hx138_13, hl138_13, hi138_13⟩ := at_T105 HR0.out (rd ((rd_T105 l0 a1).f2) 0) p138 q138
                  obtain rfl : ad126 = ad138 := (by injection e138)
                  replace hx138_0 := cb_ HB hx138_0
                  replace hx138_1 := cb_ HB hx138_1
                  replace hx138_2 := cb_ HB hx138_2
                  replace hx138_3 := cb_ HB hx138_3
                  replace hx138_4 := cb_ HB hx138_4
                  replace hx138_5 := cb_ HB hx138_5
                  replace hx138_6 := cb_ HB hx138_6
                  replace hx138_7 := cb_ HB hx138_7
                  replace hx138_8 := cb_ HB hx138_8
                  replace hx138_9 := cb_ HB hx138_9
                  replace hx138_10 := cb_ HB hx138_10
                  replace hx138_11 := cb_ HB hx138_11
                  replace hx138_12 := cb_ HB hx138_12
                  replace hx138_13 := cb_ HB hx138_13
                  have HR138_13 := Aside0.mk hi138_13
                  have HC138_13 := Aside0.mk hl138_13
                  clear hi138_13 hl138_13
                  replace p138 := eq_true p138
                  replace q138 := eq_true q138
                  go_wp2
                  repeat (go_quiet (fail); try go_wp2)
                  go_ret
                  exact ⟨eq_, bl_⟩
                 ·rw [if_neg c72] at H
                  have c72b0 : (!(((rd_T105 l0 (rd ((rd_T105 l0 a1).f2) 0)).f1.f0.f0) == ((rd_T105 l0 a1).f0.f3.f0)) || (!(((rd_T105 l0 (rd ((rd_T105 l0 a1).f2) 0)).f1.f0.f1) == ((rd_T105 l0 a1).f0.f3.f1)))) = false := by simpa using c72
                  clear c72
                  by_cases c76 : 1 < (((rd_T105 l0 a1).f2).length : Int)
                  ·rw [if_pos c76] at H
                   have c76b0 : decide (1 < (((rd_T105 l0 a1).f2).length : Int)) = true := decide_eq_true c76
                   have c76b1 : decide (1 < ((rd_T105 l0 a1).f2).length) = true := decide_eq_true (by omega)
                   clear c76
                   by_cases c77 : 0 ≤ (rd ((rd_T105 l0 a1).f2) 1)
                   ·rw [if_pos c77] at H
                    have c77b0 : decide (0 ≤ (rd ((rd_T105 l0 a1).f2) 1)) = true := decide_eq_true c77
                    clear c77
                    by_cases c78 : (rd ((rd_T105 l0 a1).f2) 1) < (l0.length : Int)
                    ·rw [if_pos c78] at H
                     have c78b0 : decide ((rd ((rd_T105 l0 a1).f2) 1) < (l0.length : Int)) = true := decide_eq_true c78
                     clear c78
                     obtain rfl := Option.some.inj H
                     have hnb79 := NB127_128.out
                     have hnc79 := NB128_127.out
                     have hcz80 := blk_cell BK127.out
                     have hfz80 := blk_frozen BK127.out
                     have hcz81 := blk_cell BK128.out
                     have hfz81 := blk_frozen BK128.out
                     have p137 : 0 ≤ (0 : Int) := (by omega)
                     have q137 : 0 < (((rd_T105 l0 a1).f2).length : Int) := of_decide_eq_true (by first | (with_reducible assumption) | assumption)
                     obtain ⟨ad137, e137, hx137_0⟩ := Kd.at_int HR126_13.out 0 p137 q137
                     cases e137
                     have qi137 : (0 < ((rd_T105 l0 a1).f2).length) = True := eq_true (by omega)
                     (try rw [show ((0 : Int)).toNat = 0 from rfl] at hx137_0)
                     (try rw [Addr.add_zero'] at hx137_0)
                     replace hx137_0 := cb_ HB hx137_0
                     replace p137 := eq_true p137
                     replace q137 := eq_true q137
                     have p138 : 0 ≤ ((rd ((rd_T105 l0 a1).f2) 0) : Int) := of_decide_eq_true (by first | (with_reducible assumption) | assumption)
                     have q138 : (rd ((rd_T105 l0 a1).f2) 0) < (l0.length : Int) := of_decide_eq_true (by first | (with_reducible assumption) | assumption)
                     obtain ⟨ad138, A138_13, c138_13, e138, hx138_0, hx138_1, hx138_2, hx138_3, hx138_4, hx138_5, hx138_6, hx138_7, hx138_8, hx138_9, hx138_10, hx138_11, hx138_12, hx138_13, hl138_13, hi138_13⟩ := at_T105 HR0.out (rd ((rd_T105 l0 a1).f2) 0) p138 q138
                     obtain rfl : ad126 = ad138 := (by injection e138)
                     replace hx138_0 := cb_ HB hx138_0
                     replace hx138_1 := cb_ HB hx138_1
                     replace hx138_2 := cb_ HB hx138_2
                     replace hx138_3 := cb_ HB hx138_3
                     replace hx138_4 := cb_ HB hx138_4
                     replace hx138_5 := cb_ HB hx138_5
                     replace hx138_6 := cb_ HB hx138_6
                     replace hx138_7 := cb_ HB hx138_7
                     replace hx138_8 := cb_ HB hx138_8
                     replace hx138_9 := cb_ HB hx138_9
                     replace hx138_10 := cb_ HB hx138_10
                     replace hx138_11 := cb_ HB hx138_11
                     replace hx138_12 := cb_ HB hx138_12
                     replace hx138_13 := cb_ HB hx138_13
                     have HR138_13 := Aside0.mk hi138_13
                     have HC138_13 := Aside0.mk hl138_13
                     clear hi138_13 hl138_13
                     replace p138 := eq_true p138
                     replace q138 := eq_true q138
                     have p139 : 0 ≤ (0 : Int) := (by omega)
                     have q139 : 0 < (((rd_T105 l0 a1).f2).length : Int) := of_decide_eq_true (by first | (with_reducible assumption) | assumption)
                     obtain ⟨ad139, e139, hx139_0⟩ := Kd.at_int HR126_13.out 0 p139 q139
                     obtain rfl : ad137 = ad139 := (by injection e139)
                     have qi139 : (0 < ((rd_T105 l0 a1).f2).length) = True := eq_true (by omega)
                     (try rw [show ((0 : Int)).toNat = 0 from rfl] at hx139_0)
                     (try rw [Addr.add_zero'] at hx139_0)
                     replace hx139_0 := cb_ HB hx139_0
                     replace p139 := eq_true p139
                     replace q139 := eq_true q139
                     have p140 : 0 ≤ ((rd ((rd_T105 l0 a1).f2) 0) : Int) := of_decide_eq_true (by first | (with_reducible assumption) | assumption)
                     have q140 : (rd ((rd_T105 l0 a1).f2) 0) < (l0.length : Int) := of_decide_eq_true (by first | (with_reducible assumption) | assumption)
                     obtain ⟨ad140, A140_13, c140_13, e140, hx140_0, hx140_1, hx140_2, hx140_3, hx140_4, hx140_5, hx140_6, hx140_7, hx140_8, hx140_9, hx140_10, hx140_11, hx140_12, hx140_13, hl140_13, hi140_13⟩ := at_T105 HR0.out (rd ((rd_T105 l0 a1).f2) 0) p140 q140
                     obtain rfl : ad126 = ad140 := (by injection e140)
                     replace hx140_0 := cb_ HB hx140_0
                     replace hx140_1 := cb_ HB hx140_1
                     replace hx140_2 := cb_ HB hx140_2
                     replace hx140_3 := cb_ HB hx140_3
                     replace hx140_4 := cb_ HB hx140_4
                     replace hx140_5 := cb_ HB hx140_5
                     replace hx140_6 := cb_ HB hx140_6
                     replace hx140_7 := cb_ HB hx140_7
                     replace hx140_8 := cb_ HB hx140_8
                     replace hx140_9 := cb_ HB hx140_9
                     replace hx140_10 := cb_ HB hx140_10
                     replace hx140_11 := cb_ HB hx140_11
                     replace hx140_12 := cb_ HB hx140_12
                     replace hx140_13 := cb_ HB hx140_13
                     have HR140_13 := Aside0.mk hi140_13
                     have HC140_13 := Aside0.mk hl140_13
                     clear hi140_13 hl140_13
                     replace p140 := eq_true p140
                     replace q140 := eq_true q140
                     have ea_ := Option.some.inj (hx138_13.symm.trans hx140_13)
                     injection ea_ with ea_ en_ ec_
                     subst ea_
                     subst ec_
                     clear en_
                     have p141 : 0 ≤ (1 : Int) := (by omega)
                     have q141 : 1 < (((rd_T105 l0 a1).f2).length : Int) := of_decide_eq_true (by first | (with_reducible assumption) | assumption)
                     obtain ⟨ad141, e141, hx141_0⟩ := Kd.at_int HR126_13.out 1 p141 q141
                     obtain rfl : ad137 = ad141 := (by injection e141)
                     (try simp only [show (1 : Int).toNat = 1 from rfl, Nat.reduceMul, Nat.reduceEqDiff, Go.Addr.add, ↓reduceIte] at hx141_0)
                     have qi141 : (1 < ((rd_T105 l0 a1).f2).length) = True := eq_true (by omega)
                     (try rw [show ((1 : Int)).toNat = 1 from rfl] at hx141_0)
                     replace hx141_0 := cb_ HB hx141_0
                     replace p141 := eq_true p141
                     replace q141 := eq_true q141
                     have p142 : 0 ≤ ((rd ((rd_T105 l0 a1).f2) 1) : Int) := of_decide_eq_true (by first | (with_reducible assumption) | assumption)
                     have q142 : (rd ((rd_T105 l0 a1).f2) 1) < (l0.length : Int) := of_decide_eq_true (by first | (with_reducible assumption) | assumption)
                     obtain ⟨ad142, A142_13, c142_13, e142, hx142_0, hx142_1, hx142_2, hx142_3, hx142_4, hx142_5, hx142_6, hx142_7, hx142_8, hx142_9, hx142_10, hx142_11, hx142_12, hx142_13, hl142_13, hi142_13⟩ := at_T105 HR0.out (rd ((rd_T105 l0 a1).f2) 1) p142 q142
                     obtain rfl : ad126 = ad142 := (by injection e142)
                     replace hx142_0 := cb_ HB hx142_0
                     replace hx142_1 := cb_ HB hx142_1
                     replace hx142_2 := cb_ HB hx142_2
                     replace hx142_3 := cb_ HB hx142_3
                     replace hx142_4 := cb_ HB hx142_4
                     replace hx142_5 := cb_ HB hx142_5
                     replace hx142_6 := cb_ HB hx142_6
                     replace hx142_7 := cb_ HB hx142_7
                     replace hx142_8 := cb_ HB hx142_8
                     replace hx142_9 := cb_ HB hx142_9
                     replace hx142_10 := cb_ HB hx142_10
                     replace hx142_11 := cb_ HB hx142_11
                     replace hx142_12 := cb_ HB hx142_12
                     replace hx142_13 := cb_ HB hx142_13
                     have HR142_13 := Aside0.mk hi142_13
                     have HC142_13 := Aside0.mk hl142_13
                     clear hi142_13 hl142_13
                     replace p142 := eq_true p142
                     replace q142 := eq_true q142
                     go_wp2
                     repeat (go_quiet (fail); try go_wp2)
                     go_ret
                     exact ⟨eq_, bl_⟩
                    ·rw [if_neg c78] at H
                     exact absurd H (by simp)
                   ·rw [if_neg c77] at H
                    exact absurd H (by simp)
                  ·rw [if_neg c76] at H
                   exact absurd H (by simp)
                ·rw [if_neg c71] at H
                 exact absurd H (by simp)
               ·rw [if_neg c70] at H
                exact absurd H (by simp)
              ·rw [if_neg c69] at H
               exact absurd H (by simp)
             ·rw [if_neg c68] at H
              have c68b0 : ((((rd_T105 l0 a1).f2).length : Int) == 2) = false := beq_eq_false_iff_ne.mpr c68
              have c68b1 : ((((rd_T105 l0 a1).f2).length : Int) != 2) = true := bne_iff_ne.mpr c68
              obtain rfl := Option.some.inj H
              have hnb82 := NB127_128.out
              have hnc82 := NB128_127.out
              have hcz83 := blk_cell BK127.out
              have hfz83 := blk_frozen BK127.out
              have hcz84 := blk_cell BK128.out
              have hfz84 := blk_frozen BK128.out
              go_wp2
              repeat (go_quiet (fail); try go_wp2)
              go_ret
              exact ⟨eq_, bl_⟩
   ·rw [if_neg c6] at H
    exact absurd H (by simp)
  ·rw [if_neg c5] at H
   exact absurd H (by simp)
 ·replace c4 := Bool.eq_false_iff.mpr c4
  subst c4
  replace H := ite_f_ H
  obtain rfl := Option.some.inj H
  go_enter Try.func86, Try.ntmps86
  go_wp2_with (first | (go_at_call 90; (with_reducible refine (spec_l01In.calls a1 0 (wrap64 ((l0.length : Int) - 1)) false _ A3.out).mono ?_); rintro e w' ⟨rfl, ⟨nd, rfl⟩⟩; (try first | exact ⟨rfl, _, World.drewN_drewN _ _ _⟩ | exact ⟨rfl, _, Eq.trans (World.drewN_drewN _ _ _) (congrArg (World.drewN _) (Nat.add_assoc _ _ _))⟩)))
  repeat (go_quiet (first | (go_at_call 90; (with_reducible refine (spec_l01In.calls a1 0 (wrap64 ((l0.length : Int) - 1)) false _ A3.out).mono ?_); rintro e w' ⟨rfl, ⟨nd, rfl⟩⟩; (try first | exact ⟨rfl, _, World.drewN_drewN _ _ _⟩ | exact ⟨rfl, _, Eq.trans (World.drewN_drewN _ _ _) (congrArg (World.drewN _) (Nat.add_assoc _ _ _))⟩))); try go_wp2_with (first | (go_at_call 90; (with_reducible refine (spec_l01In.calls a1 0 (wrap64 ((l0.length : Int) - 1)) false _ A3.out).mono ?_); rintro e w' ⟨rfl, ⟨nd, rfl⟩⟩; (try first | exact ⟨rfl, _, World.drewN_drewN _ _ _⟩ | exact ⟨rfl, _, Eq.trans (World.drewN_drewN _ _ _) (congrArg (World.drewN _) (Nat.add_assoc _ _ _))⟩))))
  go_ret
  exact ⟨eq_, bl_⟩
end Go.Proofs.Ytppdmcimddhbaaa.PA
