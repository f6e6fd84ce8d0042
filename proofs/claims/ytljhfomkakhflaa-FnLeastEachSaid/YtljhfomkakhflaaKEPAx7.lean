import Derived.Test.YtljhfomkakhflaaKEPAx6
-- printed by wip/tools
namespace Go.Proofs.Ytljhfomkakhflaa.PA
open Go.RowKit Go.Proofs.YtljhfomkakhflaaW.PrintWords Go.Proofs.YtljhfomkakhflaaW.PrintLast Go.Proofs.YtljhfomkakhflaaW.PrintMore
attribute [local go_sem] max2_int min2_int max_two min_two max_three min_three max_four min_four
set_option linter.unusedVariables false
set_option linter.unusedSimpArgs false
attribute [local go_sem high] eqA26 eqA28
def spec_DrawFactOf.T7 : Bool × List (List Nat × List Nat) := (true, [([], []), ([], []), ([], []), ([], []), ([3], [3]), ([2, 4], [2, 4]), ([1, 5], [1, 5]), ([6], [6]), ([0, 0], [0]), ([7, 8, 0, 1, 2, 3, 4, 5, 6, 7, 8], [7]), ([9, 0, 1, 2, 3, 4, 5, 6, 7, 8, 9], [])])
def spec_DrawFactOf.B7 : List Nat := [0, 0, 0, 0, 8, 28, 62, 126, 1, 511, 1023]
theorem spec_DrawFactOf.tab7 : rtab .any (opsOf Try.f6 7) = spec_DrawFactOf.T7 := by kernel_rfl
theorem spec_DrawFactOf.bits7 : waitsOk spec_DrawFactOf.T7.2 spec_DrawFactOf.B7 = true := by kernel_rfl
def impl_in.f (a0 : Int) (a1 : Int) (a2 : Int) : Option (Bool) := if a0 ≥ a1 then (some (decide (a0 ≤ a2))) else (some false)
set_option maxHeartbeats 8000000 in
set_option maxRecDepth 100000 in
theorem impl_in.calls (a0 : Int) (a1 : Int) (a2 : Int) (r : Bool) (w : World) (h : impl_in.f a0 a1 a2 = some r) :
  Calls Try.prog 33 #[.int .i64 a0, .int .i64 a1, .int .i64 a2] w fun e w' => e = .returned (.bool r) ∧ Drawn0 w w' := by
 have H : (if a0 ≥ a1 then (some (decide (a0 ≤ a2))) else (some false)) = some r := h
 clear h
 by_cases c4 : a0 ≥ a1
 ·rw [if_pos c4] at H
  have c4b0 : decide (a1 ≤ a0) = true := decide_eq_true c4
  clear c4
  obtain rfl := Option.some.inj H
  go_enter Try.func33, Try.ntmps33
  go_wp2
  go_ret
  exact ⟨by first | rfl | (simp; done) | (simp [*]; done), by repeat (first | exact Drawn0.refl _ | apply Drawn0.step)⟩
 ·rw [if_neg c4] at H
  have c4b0 : decide (a1 ≤ a0) = false := decide_eq_false c4
  clear c4
  obtain rfl := Option.some.inj H
  go_enter Try.func33, Try.ntmps33
  go_wp2
  go_ret
  exact ⟨by first | rfl | (simp; done) | (simp [*]; done), by repeat (first | exact Drawn0.refl _ | apply Drawn0.step)⟩
def impl_RoleOk.f (a0_0 : Int) (a0_1 : Int) : Option (Bool) := (impl_in.f a0_0 0 5).bind fun t269 => (if t269 = true then ((impl_in.f a0_1 0 3).bind fun t270 => (some t270)) else (some false))
set_option maxHeartbeats 8000000 in
set_option maxRecDepth 100000 in
theorem impl_RoleOk.calls (a0_0 : Int) (a0_1 : Int) (r : Bool) (w : World) (h : impl_RoleOk.f a0_0 a0_1 = some r) :
  Calls Try.prog 55 #[.agg #[.int .i64 a0_0, .int .i64 a0_1]] w fun e w' => e = .returned (.bool r) ∧ Below w.heap.size w w' := by
 have hu26 := Try.underlying26
 have HB := aa_ (Below.refl w.heap.size w)
 have H : ((impl_in.f a0_0 0 5).bind fun t269 => (if t269 = true then ((impl_in.f a0_1 0 3).bind fun t270 => (some t270)) else (some false))) = some r := h
 clear h
 obtain ⟨t269, A2, H⟩ := bindE_ H
 by_cases c3 : t269 = true
 ·subst c3
  replace H := ite_t_ H
  obtain ⟨t270, A4, H⟩ := bindE_ H
  obtain rfl := Option.some.inj H
  go_enter Try.func55, Try.ntmps55
  go_wp2_with (first | ((with_reducible refine gD_ 1 rfl ?_); refine bx_ (N := 1) (cs := #[.int .i64 a0_0, .int .i64 a0_1]) (t := 26) ?_; intro gb268 hg w5 hbox hb; have BK268 := aa_ (hbox); have GW268 := gs_ hg; have GE268 := gs_ hg; replace HB := hbs_ hb; clear hb hbox hg; obtain ⟨hcz6, hfz6⟩ := bcf_ BK268) | ((with_reducible refine gC_ 33 rfl ?_); refine goesC_ (some 5) Try.func33 #[.int .i64 a0_0, .int .i64 0, .int .i64 5] ?_; (with_reducible refine (impl_in.calls a0_0 0 5 true _ A2.out).mono ?_); rintro e w' ⟨rfl, ⟨nd, rfl⟩⟩; refine ⟨_, rfl, ?_⟩) | (go_at_call 33; (with_reducible refine (impl_in.calls a0_1 0 3 t270 _ A4.out).mono ?_); rintro e w' ⟨rfl, ⟨nd, rfl⟩⟩))
  go_ret
  exact ⟨eq_, bl_⟩
 ·replace c3 := Bool.eq_false_iff.mpr c3
  subst c3
  replace H := ite_f_ H
  obtain rfl := Option.some.inj H
  go_enter Try.func55, Try.ntmps55
  go_wp2_with (first | ((with_reducible refine gD_ 1 rfl ?_); refine bx_ (N := 1) (cs := #[.int .i64 a0_0, .int .i64 a0_1]) (t := 26) ?_; intro gb268 hg w7 hbox hb; have BK268 := aa_ (hbox); have GW268 := gs_ hg; have GE268 := gs_ hg; replace HB := hbs_ hb; clear hb hbox hg; obtain ⟨hcz8, hfz8⟩ := bcf_ BK268) | ((with_reducible refine gC_ 33 rfl ?_); refine goesC_ (some 5) Try.func33 #[.int .i64 a0_0, .int .i64 0, .int .i64 5] ?_; (with_reducible refine (impl_in.calls a0_0 0 5 false _ A2.out).mono ?_); rintro e w' ⟨rfl, ⟨nd, rfl⟩⟩; refine ⟨_, rfl, ?_⟩))
  go_ret
  exact ⟨eq_, bl_⟩
def impl_isPerson.f (a0 : Int) : Option (Bool) := (impl_in.f a0 0 5).bind fun t271 => (some t271)
set_option maxHeartbeats 8000000 in
set_option maxRecDepth 100000 in
theorem impl_isPerson.calls (a0 : Int) (r : Bool) (w : World) (h : impl_isPerson.f a0 = some r) :
  Calls Try.prog 56 #[.int .i64 a0] w fun e w' => e = .returned (.bool r) ∧ Drawn0 w w' := by
 have H : ((impl_in.f a0 0 5).bind fun t271 => (some t271)) = some r := h
 clear h
 obtain ⟨t271, A2, H⟩ := bindE_ H
 obtain rfl := Option.some.inj H
 go_enter Try.func56, Try.ntmps56
 go_wp2_with (first | ((with_reducible refine gC_ 33 rfl ?_); refine goesC_ (some 4) Try.func33 #[.int .i64 a0, .int .i64 0, .int .i64 5] ?_; (with_reducible refine (impl_in.calls a0 0 5 t271 _ A2.out).mono ?_); rintro e w' ⟨rfl, ⟨nd, rfl⟩⟩; refine ⟨_, rfl, ?_⟩))
 go_ret
 exact ⟨by first | rfl | (simp; done) | (simp [*]; done), by repeat (first | exact Drawn0.refl _ | apply Drawn0.step)⟩
def impl_CredOk.j0 : Nat → Bool → Int → Int → Int → Int → Int → Int → Int → Int → Int → Int → Option (Bool)
 | 0, _, _, _, _, _, _, _, _, _, _, _ => none
 | k + 1, x19, x273000, x273001, x273002, x273003, x273004, x273005, x273006, x273007, x273008, x273009 => if x19 = true then (some false) else (if x273000 = 1 then ((impl_isPerson.f x273003).bind fun t277 => (if t277 = true then (if (x273004 == 0 && (x273005 == 0)) = true then (some (x273006 == 0 && (x273007 == 0))) else (some false)) else (some false))) else (if x273000 = 2 then (if x273003 = 0 then ((impl_RoleOk.f x273004 x273005).bind fun t278 => (if t278 = true then (some (x273006 == 0 && (x273007 == 0))) else (some false))) else (some false)) else (if x273000 = 3 then (if x273003 = 0 then ((impl_RoleOk.f x273004 x273005).bind fun t279 => (if t279 = true then ((impl_RoleOk.f x273006 x273007).bind fun t280 => (if t280 = true then (some (x273006 == 0)) else (some false))) else (some false))) else (some false)) else (if x273000 = 4 then (if x273003 = 0 then ((impl_RoleOk.f x273004 x273005).bind fun t281 => (if t281 = true then ((impl_RoleOk.f x273006 x273007).bind fun t282 => (some t282)) else (some false))) else (some false)) else (some false)))))
def impl_CredOk.f (k : Nat) (a0_0 : Int) (a0_1 : Int) (a0_2 : Int) (a0_3 : Int) (a0_4 : Int) (a0_5 : Int) (a0_6 : Int) (a0_7 : Int) (a0_8 : Int) (a0_9 : Int) : Option (Bool) := (impl_RoleOk.f a0_1 a0_2).bind fun t273 => (if t273 = true then ((impl_in.f a0_8 1 9999).bind fun t274 => (if t274 = true then ((impl_in.f a0_9 0 99).bind fun t275 => (impl_CredOk.j0 k (!t275) a0_0 a0_1 a0_2 a0_3 a0_4 a0_5 a0_6 a0_7 a0_8 a0_9)) else (impl_CredOk.j0 k true a0_0 a0_1 a0_2 a0_3 a0_4 a0_5 a0_6 a0_7 a0_8 a0_9))) else (impl_CredOk.j0 k true a0_0 a0_1 a0_2 a0_3 a0_4 a0_5 a0_6 a0_7 a0_8 a0_9))
set_option maxHeartbeats 8000000 in
set_option maxRecDepth 100000 in
theorem impl_CredOk.calls (k : Nat) (a0_0 : Int) (a0_1 : Int) (a0_2 : Int) (a0_3 : Int) (a0_4 : Int) (a0_5 : Int) (a0_6 : Int) (a0_7 : Int) (a0_8 : Int) (a0_9 : Int) (r : Bool) (w : World) (h : impl_CredOk.f k a0_0 a0_1 a0_2 a0_3 a0_4 a0_5 a0_6 a0_7 a0_8 a0_9 = some r) :
  Calls Try.prog 40 #[.agg #[.int .i64 a0_0, .int .i64 a0_1, .int .i64 a0_2, .int .i64 a0_3, .int .i64 a0_4, .int .i64 a0_5, .int .i64 a0_6, .int .i64 a0_7, .int .i64 a0_8, .int .i64 a0_9]] w fun e w' => e = .returned (.bool r) ∧ Below w.heap.size w w' := by
 have hu35 := Try.underlying35
 have hu26 := Try.underlying26
 have HB := aa_ (Below.refl w.heap.size w)
 have H : ((impl_RoleOk.f a0_1 a0_2).bind fun t273 => (if t273 = true then ((impl_in.f a0_8 1 9999).bind fun t274 => (if t274 = true then ((impl_in.f a0_9 0 99).bind fun t275 => (impl_CredOk.j0 k (!t275) a0_0 a0_1 a0_2 a0_3 a0_4 a0_5 a0_6 a0_7 a0_8 a0_9)) else (impl_CredOk.j0 k true a0_0 a0_1 a0_2 a0_3 a0_4 a0_5 a0_6 a0_7 a0_8 a0_9))) else (impl_CredOk.j0 k true a0_0 a0_1 a0_2 a0_3 a0_4 a0_5 a0_6 a0_7 a0_8 a0_9))) = some r := h
 clear h
 have HC2 := aa_ H
 clear H
 go_enter Try.func40, Try.ntmps40
 go_upto_region 1 with (first | ((with_reducible refine gD_ 1 rfl ?_); refine bx_ (N := 1) (cs := #[.int .i64 a0_0, .int .i64 a0_1, .int .i64 a0_2, .int .i64 a0_3, .int .i64 a0_4, .int .i64 a0_5, .int .i64 a0_6, .int .i64 a0_7, .int .i64 a0_8, .int .i64 a0_9]) (t := 35) ?_; intro gb272 hg w3 hbox hb; have BK272 := aa_ (hbox); have GW272 := gs_ hg; have GE272 := gs_ hg; replace HB := hbs_ hb; clear hb hbox hg))
 (try simp only [Act.put, sb_, sz_, ss_])
 go_cut [19] (fun v19 wc => ∃ (kq : Nat) (x19_1 : Bool), v19 = .bool x19_1 ∧ Aside0 (impl_CredOk.j0 kq x19_1 a0_0 a0_1 a0_2 a0_3 a0_4 a0_5 a0_6 a0_7 a0_8 a0_9 = some r) ∧ Aside0 (kq ≤ k) ∧ Aside0 (wc.heap[gb272]? = some (.cells #[.int .i64 a0_0, .int .i64 a0_1, .int .i64 a0_2, .int .i64 a0_3, .int .i64 a0_4, .int .i64 a0_5, .int .i64 a0_6, .int .i64 a0_7, .int .i64 a0_8, .int .i64 a0_9] 35 (0, 0))) ∧ Aside0 (Below w.heap.size w wc))
 case first =>
  have H := HC2.out
  clear HC2
  obtain ⟨t273, A4, H⟩ := bindE_ H
  by_cases c5 : t273 = true
  ·subst c5
   replace H := ite_t_ H
   obtain ⟨t274, A6, H⟩ := bindE_ H
   by_cases c7 : t274 = true
   ·subst c7
    replace H := ite_t_ H
    obtain ⟨t275, A8, H⟩ := bindE_ H
    have H' := aa_ H
    clear H
    have hcz9 := blk_cell BK272.out
    have hfz9 := blk_frozen BK272.out
    go_wp2_with (first | ((with_reducible refine gC_ 55 rfl ?_); refine goesC_ (some 6) Try.func55 #[.agg #[.int .i64 a0_1, .int .i64 a0_2]] ?_; (with_reducible refine (impl_RoleOk.calls a0_1 a0_2 true _ A4.out).mono ?_); rintro e w10 ⟨rfl, hb⟩; refine ⟨_, rfl, ?_⟩; replace BK272 := bkb_ BK272 hb; replace HB := hbs_ hb; clear hb; obtain ⟨hcz11, hfz11⟩ := bcf_ BK272) | (go_at_call 33; (with_reducible refine (impl_in.calls a0_8 1 9999 true _ A6.out).mono ?_); rintro e w' ⟨rfl, ⟨nd, rfl⟩⟩) | (go_at_call 33; (with_reducible refine (impl_in.calls a0_9 0 99 t275 _ A8.out).mono ?_); rintro e w' ⟨rfl, ⟨nd, rfl⟩⟩))
    go_meet
    case rel => exact ⟨_, (!t275), rf_, H', ⟨by first | omega | exact Nat.le_refl _⟩, ⟨bk_ BK272⟩, ⟨bl_⟩⟩
   ·replace c7 := Bool.eq_false_iff.mpr c7
    subst c7
    replace H := ite_f_ H
    have H' := aa_ H
    clear H
    have hcz12 := blk_cell BK272.out
    have hfz12 := blk_frozen BK272.out
    go_wp2_with (first | ((with_reducible refine gC_ 55 rfl ?_); refine goesC_ (some 6) Try.func55 #[.agg #[.int .i64 a0_1, .int .i64 a0_2]] ?_; (with_reducible refine (impl_RoleOk.calls a0_1 a0_2 true _ A4.out).mono ?_); rintro e w13 ⟨rfl, hb⟩; refine ⟨_, rfl, ?_⟩; replace BK272 := bkb_ BK272 hb; replace HB := hbs_ hb; clear hb; obtain ⟨hcz14, hfz14⟩ := bcf_ BK272) | (go_at_call 33; (with_reducible refine (impl_in.calls a0_8 1 9999 false _ A6.out).mono ?_); rintro e w' ⟨rfl, ⟨nd, rfl⟩⟩))
    go_meet
    case rel => exact ⟨_, (true), rf_, H', ⟨by first | omega | exact Nat.le_refl _⟩, ⟨bk_ BK272⟩, ⟨bl_⟩⟩
  ·replace c5 := Bool.eq_false_iff.mpr c5
   subst c5
   replace H := ite_f_ H
   have H' := aa_ H
   clear H
   have hcz15 := blk_cell BK272.out
   have hfz15 := blk_frozen BK272.out
   go_wp2_with (first | ((with_reducible refine gC_ 55 rfl ?_); refine goesC_ (some 6) Try.func55 #[.agg #[.int .i64 a0_1, .int .i64 a0_2]] ?_; (with_reducible refine (impl_RoleOk.calls a0_1 a0_2 false _ A4.out).mono ?_); rintro e w16 ⟨rfl, hb⟩; refine ⟨_, rfl, ?_⟩; replace BK272 := bkb_ BK272 hb; replace HB := hbs_ hb; clear hb))
   go_meet
   case rel => exact ⟨_, (true), rf_, H', ⟨by first | omega | exact Nat.le_refl _⟩, ⟨bk_ BK272⟩, ⟨bl_⟩⟩
 case rest =>
  clear HC2
  try clear p2
  try clear hcz11
  try clear hcz12
  try clear hcz14
  try clear hcz15
  try clear hcz9
  try clear hfz11
  try clear hfz12
  try clear hfz14
  try clear hfz15
  try clear hfz9
  obtain ⟨kq, x19_1, rfl, HA, HJ1, BK272, HB⟩ := hcut
  cases kq with
  | zero => exact absurd HA.out (by simp [impl_CredOk.j0])
  | succ kj1 =>
   have H := HA.out
   clear HA
   simp only [impl_CredOk.j0] at H
   by_cases c17 : x19_1 = true
   ·subst c17
    replace H := ite_t_ H
    obtain rfl := Option.some.inj H
    go_wp2
    go_ret
    exact ⟨eq_, bl_⟩
   ·replace c17 := Bool.eq_false_iff.mpr c17
    subst c17
    replace H := ite_f_ H
    have HC18 := aa_ H
    clear H
    go_upto_if 23 with (first | ((with_reducible refine gD_ 3 rfl ?_); refine bx_ (N := 3) (cs := #[.int .i64 0, .int .i64 0]) (t := 26) ?_; intro gb276 hg w19 hbox hb; have BK276 := aa_ (hbox); have GW276 := gs_ hg; have GE276 := gs_ hg; replace HB := hbs_ hb; have NB272_276 := nl_ hg BK272; have NB276_272 := nr_ hg BK272; replace BK272 := bkb_ BK272 hb; clear hb hbox hg; have hnb20 := NB276_272.out; have hnc20 := NB272_276.out; obtain ⟨hcz21, hfz21⟩ := bcf_ BK276; obtain ⟨hcz22, hfz22⟩ := bcf_ BK272))
    have n0_ : Aside0 (((w19.setCell ⟨gb276, 0, none⟩ (.int .i64 0)).setCell ⟨gb276, 1, none⟩ (.int .i64 0)).heap[gb272]? = some (.cells #[.int .i64 a0_0, .int .i64 a0_1, .int .i64 a0_2, .int .i64 a0_3, .int .i64 a0_4, .int .i64 a0_5, .int .i64 a0_6, .int .i64 a0_7, .int .i64 a0_8, .int .i64 a0_9] 35 (0, 0))) := ⟨bk_ BK272⟩
    have n1_ : Aside0 (((w19.setCell ⟨gb276, 0, none⟩ (.int .i64 0)).setCell ⟨gb276, 1, none⟩ (.int .i64 0)).heap[gb276]? = some (.cells #[.int .i64 0, .int .i64 0] 26 (0, 0))) := ⟨bk_ BK276⟩
    have n2_ : Aside0 (Below w.heap.size w ((w19.setCell ⟨gb276, 0, none⟩ (.int .i64 0)).setCell ⟨gb276, 1, none⟩ (.int .i64 0))) := ⟨bl_⟩
    (try clear BK272)
    (try clear BK276)
    (try clear HB)
    generalize ((w19.setCell ⟨gb276, 0, none⟩ (.int .i64 0)).setCell ⟨gb276, 1, none⟩ (.int .i64 0)) = w23 at n0_ n1_ n2_ ⊢
    have BK272 := n0_
    have BK276 := n1_
    have HB := n2_
    clear n0_ n1_ n2_
    (try simp only [Act.put, sb_, sz_, ss_])
    have H := HC18.out
    clear HC18
    by_cases c24 : a0_0 = 1
    ·rw [if_pos c24] at H
     have c24b0 : (a0_0 == 1) = true := beq_iff_eq.mpr c24
     have c24b1 : (a0_0 != 1) = false := bne_eq_false_iff_eq.mpr c24
     clear c24
     (first | rw [c24b0] | (simp only [i64_w, i32_w]; rw [c24b0]) | skip)
     obtain ⟨t277, A25, H⟩ := bindE_ H
     by_cases c26 : t277 = true
     ·subst c26
      replace H := ite_t_ H
      by_cases c27 : (a0_4 == 0 && (a0_5 == 0)) = true
      ·rw [if_pos c27] at H
       have c27b0 : (a0_4 == 0 && (a0_5 == 0)) = true := c27
       (try (have c27b1 : decide (a0_4 = 0 && (a0_5 == 0)) = true := by simpa using c27))
       (try (have c27b2 : (a0_4 == 0 && (a0_5 == 0)) = true := by simpa using c27))
       clear c27
       obtain rfl := Option.some.inj H
       have hnb28 := NB272_276.out
       have hnc28 := NB276_272.out
       have hcz29 := blk_cell BK272.out
       have hfz29 := blk_frozen BK272.out
       go_wp2_with (first | ((with_reducible refine gC_ 56 rfl ?_); refine goesC_ (some 27) Try.func56 #[.int .i64 a0_3] ?_; (with_reducible refine (impl_isPerson.calls a0_3 true _ A25.out).mono ?_); rintro e w' ⟨rfl, ⟨nd, rfl⟩⟩; refine ⟨_, rfl, ?_⟩; obtain ⟨hcz30, hfz30⟩ := bcf_ BK276))
       go_ret
       exact ⟨eq_, bl_⟩
      ·rw [if_neg c27] at H
       have c27b0 : (a0_4 == 0 && (a0_5 == 0)) = false := by simpa using c27
       (try (have c27b1 : decide (a0_4 = 0 && (a0_5 == 0)) = false := by simpa using c27))
       (try (have c27b2 : (a0_4 == 0 && (a0_5 == 0)) = false := by simpa using c27))
       (try (have c27b3 : ¬ (a0_4 = 0 && (a0_5 == 0)) := by simpa using c27))
       clear c27
       obtain rfl := Option.some.inj H
       have hnb31 := NB272_276.out
       have hnc31 := NB276_272.out
       have hcz32 := blk_cell BK272.out
       have hfz32 := blk_frozen BK272.out
       go_wp2_with (first | ((with_reducible refine gC_ 56 rfl ?_); refine goesC_ (some 27) Try.func56 #[.int .i64 a0_3] ?_; (with_reducible refine (impl_isPerson.calls a0_3 true _ A25.out).mono ?_); rintro e w' ⟨rfl, ⟨nd, rfl⟩⟩; refine ⟨_, rfl, ?_⟩; obtain ⟨hcz33, hfz33⟩ := bcf_ BK276))
       go_ret
       exact ⟨eq_, bl_⟩
     ·replace c26 := Bool.eq_false_iff.mpr c26
      subst c26
      replace H := ite_f_ H
      obtain rfl := Option.some.inj H
      have hnb34 := NB272_276.out
      have hnc34 := NB276_272.out
      have hcz35 := blk_cell BK272.out
      have hfz35 := blk_frozen BK272.out
      go_wp2_with (first | ((with_reducible refine gC_ 56 rfl ?_); refine goesC_ (some 27) Try.func56 #[.int .i64 a0_3] ?_; (with_reducible refine (impl_isPerson.calls a0_3 false _ A25.out).mono ?_); rintro e w' ⟨rfl, ⟨nd, rfl⟩⟩; refine ⟨_, rfl, ?_⟩))
      go_ret
      exact ⟨eq_, bl_⟩
    ·rw [if_neg c24] at H
     have c24b0 : (a0_0 == 1) = false := beq_eq_false_iff_ne.mpr c24
     have c24b1 : (a0_0 != 1) = true := bne_iff_ne.mpr c24
     (first | rw [c24b0] | (simp only [i64_w, i32_w]; rw [c24b0]) | skip)
     by_cases c36 : a0_0 = 2
     ·rw [if_pos c36] at H
      have c36b0 : (a0_0 == 2) = true := beq_iff_eq.mpr c36
      have c36b1 : (a0_0 != 2) = false := bne_eq_false_iff_eq.mpr c36
      clear c36
      by_cases c37 : a0_3 = 0
      ·rw [if_pos c37] at H
       have c37b0 : (a0_3 == 0) = true := beq_iff_eq.mpr c37
       have c37b1 : (a0_3 != 0) = false := bne_eq_false_iff_eq.mpr c37
       clear c37
       obtain ⟨t278, A38, H⟩ := bindE_ H
       by_cases c39 : t278 = true
       ·subst c39
        replace H := ite_t_ H
        obtain rfl := Option.some.inj H
        have hnb40 := NB272_276.out
        have hnc40 := NB276_272.out
        have hcz41 := blk_cell BK272.out
        have hfz41 := blk_frozen BK272.out
        go_wp2_with (first | (go_at_call 55; (with_reducible refine (impl_RoleOk.calls a0_4 a0_5 true _ A38.out).mono ?_); rintro e w42 ⟨rfl, hb⟩; replace BK272 := bkb_ BK272 hb; replace BK276 := bkb_ BK276 hb; replace HB := hbs_ hb; clear hb; obtain ⟨hcz43, hfz43⟩ := bcf_ BK272; obtain ⟨hcz44, hfz44⟩ := bcf_ BK276))
        go_ret
        exact ⟨eq_, bl_⟩
       ·replace c39 := Bool.eq_false_iff.mpr c39
        subst c39
        replace H := ite_f_ H
        obtain rfl := Option.some.inj H
        have hnb45 := NB272_276.out
        have hnc45 := NB276_272.out
        have hcz46 := blk_cell BK272.out
        have hfz46 := blk_frozen BK272.out
        go_wp2_with (first | (go_at_call 55; (with_reducible refine (impl_RoleOk.calls a0_4 a0_5 false _ A38.out).mono ?_); rintro e w47 ⟨rfl, hb⟩; replace BK272 := bkb_ BK272 hb; replace BK276 := bkb_ BK276 hb; replace HB := hbs_ hb; clear hb))
        go_ret
        exact ⟨eq_, bl_⟩
      ·rw [if_neg c37] at H
       have c37b0 : (a0_3 == 0) = false := beq_eq_false_iff_ne.mpr c37
       have c37b1 : (a0_3 != 0) = true := bne_iff_ne.mpr c37
       obtain rfl := Option.some.inj H
       have hnb48 := NB272_276.out
       have hnc48 := NB276_272.out
       have hcz49 := blk_cell BK272.out
       have hfz49 := blk_frozen BK272.out
       go_wp2
       go_ret
       exact ⟨eq_, bl_⟩
     ·rw [if_neg c36] at H
      have c36b0 : (a0_0 == 2) = false := beq_eq_false_iff_ne.mpr c36
      have c36b1 : (a0_0 != 2) = true := bne_iff_ne.mpr c36
      by_cases c50 : a0_0 = 3
      ·rw [if_pos c50] at H
       have c50b0 : (a0_0 == 3) = true := beq_iff_eq.mpr c50
       have c50b1 : (a0_0 != 3) = false := bne_eq_false_iff_eq.mpr c50
       clear c50
       by_cases c51 : a0_3 = 0
       ·rw [if_pos c51] at H
        have c51b0 : (a0_3 == 0) = true := beq_iff_eq.mpr c51
        have c51b1 : (a0_3 != 0) = false := bne_eq_false_iff_eq.mpr c51
        clear c51
        obtain ⟨t279, A52, H⟩ := bindE_ H
        by_cases c53 : t279 = true
        ·subst c53
         replace H := ite_t_ H
         obtain ⟨t280, A54, H⟩ := bindE_ H
         by_cases c55 : t280 = true
         ·subst c55
          replace H := ite_t_ H
          obtain rfl := Option.some.inj H
          have hnb56 := NB272_276.out
          have hnc56 := NB276_272.out
          have hcz57 := blk_cell BK272.out
          have hfz57 := blk_frozen BK272.out
          go_wp2_with (first | (go_at_call 55; (with_reducible refine (impl_RoleOk.calls a0_4 a0_5 true _ A52.out).mono ?_); rintro e w58 ⟨rfl, hb⟩; replace BK272 := bkb_ BK272 hb; replace BK276 := bkb_ BK276 hb; replace HB := hbs_ hb; clear hb; obtain ⟨hcz59, hfz59⟩ := bcf_ BK272) | (go_at_call 55; (with_reducible refine (impl_RoleOk.calls a0_6 a0_7 true _ A54.out).mono ?_); rintro e w60 ⟨rfl, hb⟩; replace BK272 := bkb_ BK272 hb; replace BK276 := bkb_ BK276 hb; replace HB := hbs_ hb; clear hb; obtain ⟨hcz61, hfz61⟩ := bcf_ BK272))
          go_ret
          exact ⟨eq_, bl_⟩
         ·replace c55 := Bool.eq_false_iff.mpr c55
          subst c55
          replace H := ite_f_ H
          obtain rfl := Option.some.inj H
          have hnb62 := NB272_276.out
          have hnc62 := NB276_272.out
          have hcz63 := blk_cell BK272.out
          have hfz63 := blk_frozen BK272.out
          go_wp2_with (first | (go_at_call 55; (with_reducible refine (impl_RoleOk.calls a0_4 a0_5 true _ A52.out).mono ?_); rintro e w64 ⟨rfl, hb⟩; replace BK272 := bkb_ BK272 hb; replace BK276 := bkb_ BK276 hb; replace HB := hbs_ hb; clear hb; obtain ⟨hcz65, hfz65⟩ := bcf_ BK272) | (go_at_call 55; (with_reducible refine (impl_RoleOk.calls a0_6 a0_7 false _ A54.out).mono ?_); rintro e w66 ⟨rfl, hb⟩; replace BK272 := bkb_ BK272 hb; replace BK276 := bkb_ BK276 hb; replace HB := hbs_ hb; clear hb))
          go_ret
          exact ⟨eq_, bl_⟩
        ·replace c53 := Bool.eq_false_iff.mpr c53
         subst c53
         replace H := ite_f_ H
         obtain rfl := Option.some.inj H
         have hnb67 := NB272_276.out
         have hnc67 := NB276_272.out
         have hcz68 := blk_cell BK272.out
         have hfz68 := blk_frozen BK272.out
         go_wp2_with (first | (go_at_call 55; (with_reducible refine (impl_RoleOk.calls a0_4 a0_5 false _ A52.out).mono ?_); rintro e w69 ⟨rfl, hb⟩; replace BK272 := bkb_ BK272 hb; replace BK276 := bkb_ BK276 hb; replace HB := hbs_ hb; clear hb))
         go_ret
         exact ⟨eq_, bl_⟩
       ·rw [if_neg c51] at H
        have c51b0 : (a0_3 == 0) = false := beq_eq_false_iff_ne.mpr c51
        have c51b1 : (a0_3 != 0) = true := bne_iff_ne.mpr c51
        obtain rfl := Option.some.inj H
        have hnb70 := NB272_276.out
        have hnc70 := NB276_272.out
        have hcz71 := blk_cell BK272.out
        have hfz71 := blk_frozen BK272.out
        go_wp2
        go_ret
        exact ⟨eq_, bl_⟩
      ·rw [if_neg c50] at H
       have c50b0 : (a0_0 == 3) = false := beq_eq_false_iff_ne.mpr c50
       have c50b1 : (a0_0 != 3) = true := bne_iff_ne.mpr c50
       by_cases c72 : a0_0 = 4
       ·rw [if_pos c72] at H
        have c72b0 : (a0_0 == 4) = true := beq_iff_eq.mpr c72
        have c72b1 : (a0_0 != 4) = false := bne_eq_false_iff_eq.mpr c72
        clear c72
        by_cases c73 : a0_3 = 0
        ·rw [if_pos c73] at H
         have c73b0 : (a0_3 == 0) = true := beq_iff_eq.mpr c73
         have c73b1 : (a0_3 != 0) = false := bne_eq_false_iff_eq.mpr c73
         clear c73
         obtain ⟨t281, A74, H⟩ := bindE_ H
         by_cases c75 : t281 = true
         ·subst c75
          replace H := ite_t_ H
          obtain ⟨t282, A76, H⟩ := bindE_ H
          obtain rfl := Option.some.inj H
          have hnb77 := NB272_276.out
          have hnc77 := NB276_272.out
          have hcz78 := blk_cell BK272.out
          have hfz78 := blk_frozen BK272.out
          go_wp2_with (first | (go_at_call 55; (with_reducible refine (impl_RoleOk.calls a0_4 a0_5 true _ A74.out).mono ?_); rintro e w79 ⟨rfl, hb⟩; replace BK272 := bkb_ BK272 hb; replace BK276 := bkb_ BK276 hb; replace HB := hbs_ hb; clear hb; obtain ⟨hcz80, hfz80⟩ := bcf_ BK272) | (go_at_call 55; (with_reducible refine (impl_RoleOk.calls a0_6 a0_7 t282 _ A76.out).mono ?_); rintro e w81 ⟨rfl, hb⟩; replace BK272 := bkb_ BK272 hb; replace BK276 := bkb_ BK276 hb; replace HB := hbs_ hb; clear hb))
          go_ret
          exact ⟨eq_, bl_⟩
         ·replace c75 := Bool.eq_false_iff.mpr c75
          subst c75
          replace H := ite_f_ H
          obtain rfl := Option.some.inj H
          have hnb82 := NB272_276.out
          have hnc82 := NB276_272.out
          have hcz83 := blk_cell BK272.out
          have hfz83 := blk_frozen BK272.out
          go_wp2_with (first | (go_at_call 55; (with_reducible refine (impl_RoleOk.calls a0_4 a0_5 false _ A74.out).mono ?_); rintro e w84 ⟨rfl, hb⟩; replace BK272 := bkb_ BK272 hb; replace BK276 := bkb_ BK276 hb; replace HB := hbs_ hb; clear hb))
          go_ret
          exact ⟨eq_, bl_⟩
        ·rw [if_neg c73] at H
         have c73b0 : (a0_3 == 0) = false := beq_eq_false_iff_ne.mpr c73
         have c73b1 : (a0_3 != 0) = true := bne_iff_ne.mpr c73
         obtain rfl := Option.some.inj H
         have hnb85 := NB272_276.out
         have hnc85 := NB276_272.out
         have hcz86 := blk_cell BK272.out
         have hfz86 := blk_frozen BK272.out
         go_wp2
         go_ret
         exact ⟨eq_, bl_⟩
       ·rw [if_neg c72] at H
        have c72b0 : (a0_0 == 4) = false := beq_eq_false_iff_ne.mpr c72
        have c72b1 : (a0_0 != 4) = true := bne_iff_ne.mpr c72
        obtain rfl := Option.some.inj H
        go_wp2
        go_ret
        exact ⟨eq_, bl_⟩
def impl_Fact_22.l0 : Nat → List (S28) → Int → Int → Int → Int → Int → Option (Int)
 | 0, _, _, _, _, _, _ => none
 | k + 1, x0, x7, x8, x284000, x284001, x284002 => if x8 < x7 then (if 0 ≤ x8 then (if x8 < (x0.length : Int) then (if ((x284000 == ((rd_T28 x0 x8).f0.f0) && (x284001 == ((rd_T28 x0 x8).f0.f1))) && (x284002 == ((rd_T28 x0 x8).f1))) = true then (some x8) else (impl_Fact_22.l0 k x0 x7 (wrap64 (x8 + 1)) x284000 x284001 x284002)) else (none)) else (none)) else (some (-1))
def impl_Fact_22.f (k : Nat) (l0 : List (S28)) (a1_0 : Int) (a1_1 : Int) (a1_2 : Int) : Option (Int) := impl_Fact_22.l0 k l0 (l0.length : Int) 0 a1_0 a1_1 a1_2
set_option maxHeartbeats 8000000 in
set_option maxRecDepth 100000 in
theorem impl_Fact_22.calls (k : Nat) (A0 : Option Addr) (c0 : Nat) (l0 : List (S28)) (a1_0 : Int) (a1_1 : Int) (a1_2 : Int) (r : Int) (w : World) (hr0 : Kd.C k28 w A0 l0.length l0) (hc0 : l0.length ≤ c0) (h : impl_Fact_22.f k l0 a1_0 a1_1 a1_2 = some r) :
  Calls Try.prog 22 #[.slice A0 l0.length c0, .agg #[.int .i64 a1_0, .int .i64 a1_1, .int .i64 a1_2]] w fun e w' => e = .returned (.int .i64 r) ∧ Below w.heap.size w w' := by
 have hu28 := Try.underlying28
 have HR0 := aa_ hr0
 have HC0 := aa_ hc0
 clear hr0 hc0
 have HB := aa_ (Below.refl w.heap.size w)
 have H : (impl_Fact_22.l0 k l0 (l0.length : Int) 0 a1_0 a1_1 a1_2) = some r := h
 clear h
 have H' := aa_ H
 clear H
 go_enter Try.func22, Try.ntmps22
 go_wp2_with (first | ((with_reducible refine gD_ 3 rfl ?_); refine bx_ (N := 3) (cs := #[.int .i64 a1_0, .int .i64 a1_1, .int .i64 a1_2]) (t := 28) ?_; intro gb283 hg w3 hbox hb; have BK283 := aa_ (hbox); have GW283 := gs_ hg; have GE283 := gs_ hg; replace HB := hbs_ hb; clear hb hbox hg))
 repeat (go_quiet (first | ((with_reducible refine gD_ 3 rfl ?_); refine bx_ (N := 3) (cs := #[.int .i64 a1_0, .int .i64 a1_1, .int .i64 a1_2]) (t := 28) ?_; intro gb283 hg w3 hbox hb; have BK283 := aa_ (hbox); have GW283 := gs_ hg; have GE283 := gs_ hg; replace HB := hbs_ hb; clear hb hbox hg)); try go_wp2_with (first | ((with_reducible refine gD_ 3 rfl ?_); refine bx_ (N := 3) (cs := #[.int .i64 a1_0, .int .i64 a1_1, .int .i64 a1_2]) (t := 28) ?_; intro gb283 hg w3 hbox hb; have BK283 := aa_ (hbox); have GW283 := gs_ hg; have GE283 := gs_ hg; replace HB := hbs_ hb; clear hb hbox hg)))
 go_loopg [8] k (fun kq v8 w' => ∃ (x8_1 : Int), v8 = .int .i64 x8_1 ∧ Aside0 (impl_Fact_22.l0 kq l0 (l0.length : Int) x8_1 a1_0 a1_1 a1_2 = some r) ∧ Aside0 (kq ≤ k) ∧ Aside0 (w'.heap[gb283]? = some (.cells #[.int .i64 a1_0, .int .i64 a1_1, .int .i64 a1_2] 28 (0, 0))) ∧ Aside0 (Below w.heap.size w w'))
 case atStart => exact ⟨(0), rf_, H', ⟨Nat.le_refl _⟩, ⟨bk_ BK283⟩, ⟨bl_⟩⟩
 case round =>
  clear H'
  try clear p2
  obtain ⟨x8_1, rfl, HA, HK1, BK283, HB⟩ := hrel
  cases gk with
  | zero => exact absurd HA.out (by simp [impl_Fact_22.l0])
  | succ k1 =>
   have H := HA.out
   clear HA
   simp only [impl_Fact_22.l0] at H
   by_cases c4 : x8_1 < (l0.length : Int)
   ·rw [if_pos c4] at H
    have c4b0 : decide (x8_1 < (l0.length : Int)) = true := decide_eq_true c4
    clear c4
    obtain ⟨c5b0, H⟩ := ifd_ H
    obtain ⟨c6b0, H⟩ := ifd_ H
    have HC7 := aa_ H
    clear H
    have hcz8 := blk_cell BK283.out
    have hfz8 := blk_frozen BK283.out
    have p284 : 0 ≤ (x8_1 : Int) := od_
    have q284 : x8_1 < (l0.length : Int) := od_
    obtain ⟨ad284, e284, hx284_0, hx284_1, hx284_2⟩ := at_T28 (Kd.C_below HR0.out HB.out) x8_1 p284 q284
    cases e284
    replace p284 := eq_true p284
    replace q284 := eq_true q284
    go_upto_if 16 with (fail)
    repeat (go_quiet (fail); go_upto_if 16 with (fail))
    have H := HC7.out
    clear HC7
    by_cases c9 : ((a1_0 == ((rd_T28 l0 x8_1).f0.f0) && (a1_1 == ((rd_T28 l0 x8_1).f0.f1))) && (a1_2 == ((rd_T28 l0 x8_1).f1))) = true
    ·rw [if_pos c9] at H
     have c9b0 : ((a1_0 == ((rd_T28 l0 x8_1).f0.f0) && (a1_1 == ((rd_T28 l0 x8_1).f0.f1))) && (a1_2 == ((rd_T28 l0 x8_1).f1))) = true := c9
     clear c9
     (first | rw [c9b0] | (simp only [i64_w, i32_w]; rw [c9b0]) | skip)
     obtain rfl := Option.some.inj H
     go_wp2
     repeat (go_quiet (fail); try go_wp2)
     go_ret
     exact ⟨eq_, bl_⟩
    ·rw [if_neg c9] at H
     have c9b0 : ((a1_0 == ((rd_T28 l0 x8_1).f0.f0) && (a1_1 == ((rd_T28 l0 x8_1).f0.f1))) && (a1_2 == ((rd_T28 l0 x8_1).f1))) = false := by simpa using c9
     clear c9
     (first | rw [c9b0] | (simp only [i64_w, i32_w]; rw [c9b0]) | skip)
     have H' := aa_ H
     clear H
     go_wp2
     repeat (go_quiet (fail); try go_wp2)
     go_roundg k1
     case measure => have := HK1.out; omega
     case rel => exact ⟨(wrap64 (x8_1 + 1)), rf_, H', ⟨by have := HK1.out; omega⟩, ⟨bk_ BK283⟩, ⟨bl_⟩⟩
   ·rw [if_neg c4] at H
    have c4b0 : decide (x8_1 < (l0.length : Int)) = false := decide_eq_false c4
    clear c4
    obtain rfl := Option.some.inj H
    go_wp2
    repeat (go_quiet (fail); try go_wp2)
    go_ret
    exact ⟨eq_, bl_⟩
-- NOT PRINTED: function 57 (impl_derive_1)
def impl_factOk.f (a0_0 : Int) (a0_1 : Int) (a0_2 : Int) : Option (Bool) := (impl_RoleOk.f a0_0 a0_1).bind fun t286 => (if t286 = true then ((impl_isPerson.f a0_2).bind fun t287 => (some t287)) else (some false))
set_option maxHeartbeats 8000000 in
set_option maxRecDepth 100000 in
theorem impl_factOk.calls (a0_0 : Int) (a0_1 : Int) (a0_2 : Int) (r : Bool) (w : World) (h : impl_factOk.f a0_0 a0_1 a0_2 = some r) :
  Calls Try.prog 65 #[.agg #[.int .i64 a0_0, .int .i64 a0_1, .int .i64 a0_2]] w fun e w' => e = .returned (.bool r) ∧ Below w.heap.size w w' := by
 have hu28 := Try.underlying28
 have hu26 := Try.underlying26
 have HB := aa_ (Below.refl w.heap.size w)
 have H : ((impl_RoleOk.f a0_0 a0_1).bind fun t286 => (if t286 = true then ((impl_isPerson.f a0_2).bind fun t287 => (some t287)) else (some false))) = some r := h
 clear h
 obtain ⟨t286, A2, H⟩ := bindE_ H
 by_cases c3 : t286 = true
 ·subst c3
  replace H := ite_t_ H
  obtain ⟨t287, A4, H⟩ := bindE_ H
  obtain rfl := Option.some.inj H
  go_enter Try.func65, Try.ntmps65
  go_wp2_with (first | ((with_reducible refine gD_ 1 rfl ?_); refine bx_ (N := 1) (cs := #[.int .i64 a0_0, .int .i64 a0_1, .int .i64 a0_2]) (t := 28) ?_; intro gb285 hg w5 hbox hb; have BK285 := aa_ (hbox); have GW285 := gs_ hg; have GE285 := gs_ hg; replace HB := hbs_ hb; clear hb hbox hg; obtain ⟨hcz6, hfz6⟩ := bcf_ BK285) | ((with_reducible refine gC_ 55 rfl ?_); refine goesC_ (some 5) Try.func55 #[.agg #[.int .i64 a0_0, .int .i64 a0_1]] ?_; (with_reducible refine (impl_RoleOk.calls a0_0 a0_1 true _ A2.out).mono ?_); rintro e w7 ⟨rfl, hb⟩; refine ⟨_, rfl, ?_⟩; replace BK285 := bkb_ BK285 hb; replace HB := hbs_ hb; clear hb; obtain ⟨hcz8, hfz8⟩ := bcf_ BK285) | (go_at_call 56; (with_reducible refine (impl_isPerson.calls a0_2 t287 _ A4.out).mono ?_); rintro e w' ⟨rfl, ⟨nd, rfl⟩⟩))
  go_ret
  exact ⟨eq_, bl_⟩
 ·replace c3 := Bool.eq_false_iff.mpr c3
  subst c3
  replace H := ite_f_ H
  obtain rfl := Option.some.inj H
  go_enter Try.func65, Try.ntmps65
  go_wp2_with (first | ((with_reducible refine gD_ 1 rfl ?_); refine bx_ (N := 1) (cs := #[.int .i64 a0_0, .int .i64 a0_1, .int .i64 a0_2]) (t := 28) ?_; intro gb285 hg w9 hbox hb; have BK285 := aa_ (hbox); have GW285 := gs_ hg; have GE285 := gs_ hg; replace HB := hbs_ hb; clear hb hbox hg; obtain ⟨hcz10, hfz10⟩ := bcf_ BK285) | ((with_reducible refine gC_ 55 rfl ?_); refine goesC_ (some 5) Try.func55 #[.agg #[.int .i64 a0_0, .int .i64 a0_1]] ?_; (with_reducible refine (impl_RoleOk.calls a0_0 a0_1 false _ A2.out).mono ?_); rintro e w11 ⟨rfl, hb⟩; refine ⟨_, rfl, ?_⟩; replace BK285 := bkb_ BK285 hb; replace HB := hbs_ hb; clear hb))
  go_ret
  exact ⟨eq_, bl_⟩
def impl_whoOf.l0 : Nat → List Int → List (S28) → Int → Int → Int → Int → Option (List Int)
 | 0, _, _, _, _, _, _ => none
 | k + 1, x5, x9, x10, x11, x289000, x289001 => if x11 < x10 then (if 0 ≤ x11 then (if x11 < (x9.length : Int) then (if (((rd_T28 x9 x11).f0.f0) == x289000 && (((rd_T28 x9 x11).f0.f1) == x289001)) = true then ((impl_factOk.f ((rd_T28 x9 x11).f0.f0) ((rd_T28 x9 x11).f0.f1) ((rd_T28 x9 x11).f1)).bind fun t294 => (if t294 = true then (if x5.length < 17592186044416 then (impl_whoOf.l0 k (x5 ++ [x11]) x9 x10 (wrap64 (x11 + 1)) x289000 x289001) else (none)) else (impl_whoOf.l0 k x5 x9 x10 (wrap64 (x11 + 1)) x289000 x289001))) else (impl_whoOf.l0 k x5 x9 x10 (wrap64 (x11 + 1)) x289000 x289001)) else (none)) else (none)) else (some x5)
def impl_whoOf.f (k : Nat) (l0 : List (S28)) (a1_0 : Int) (a1_1 : Int) : Option (List Int) := impl_whoOf.l0 k (([] : List Int)) l0 (l0.length : Int) 0 a1_0 a1_1
set_option maxHeartbeats 8000000 in
set_option maxRecDepth 100000 in
theorem impl_whoOf.calls (k : Nat) (A0 : Option Addr) (c0 : Nat) (l0 : List (S28)) (a1_0 : Int) (a1_1 : Int) (r : List Int) (w : World) (hr0 : Kd.C k28 w A0 l0.length l0) (hc0 : l0.length ≤ c0) (h : impl_whoOf.f k l0 a1_0 a1_1 = some r) :
  Calls Try.prog 58 #[.slice A0 l0.length c0, .agg #[.int .i64 a1_0, .int .i64 a1_1]] w fun e w' => ∃ v0_ : Value, e = .returned (v0_) ∧ Kd.R (Kd.int .i64) 3 w' w.heap.size (fun _ => True) v0_ r ∧ Below w.heap.size w w' := by
 have hu26 := Try.underlying26
 have hu28 := Try.underlying28
 have HR0 := aa_ hr0
 have HC0 := aa_ hc0
 clear hr0 hc0
 have HB := aa_ (Below.refl w.heap.size w)
 have H : (impl_whoOf.l0 k (([] : List Int)) l0 (l0.length : Int) 0 a1_0 a1_1) = some r := h
 clear h
 obtain ⟨y289, hy289⟩ : ∃ y_ : List Int, y_ = (([] : List Int)) := ⟨_, rfl⟩
 replace H : (impl_whoOf.l0 k y289 l0 (l0.length : Int) 0 a1_0 a1_1) = some r := rh_ hy289 H
 have Ny289 := aa_ hy289
 clear hy289
 have H' := aa_ H
 clear H
 go_enter Try.func58, Try.ntmps58
 go_wp2_with (first | ((with_reducible refine gD_ 3 rfl ?_); refine bx_ (N := 3) (cs := #[.int .i64 a1_0, .int .i64 a1_1]) (t := 26) ?_; intro gb288 hg w3 hbox hb; have BK288 := aa_ (hbox); have GW288 := gs_ hg; have GE288 := gs_ hg; replace HB := hbs_ hb; clear hb hbox hg) | ((with_reducible refine gD_ 8 rfl ?_); refine Kd.R_lit (Kd.int .i64) _ 3 ?hg (N := 8) ?hd (xs := ([] : List Int)) (inner := []) (ok := fun _ => True) (okp := fun _ => True) ?hr ?hp (fun _ hk => hk) trivial (Below.refl _ _) (Nat.le_refl _) (by simp) ?_; (case hd => rfl); (case hg => rfl); (case hr => first | (go_simp; done) | (go_simp; rfl)); (case hp => exact (Reps.none _ _)); intro v290 w4 ho5 hb hg_ hnew_; clear hg_ hnew_; (first | rw [← Ny289.out] at ho5 | (simp only [Int.reduceToNat] at ho5; rw [← Ny289.out] at ho5)); have HO291 := aa_ (Kd.R_lower ho5 bls_); replace BK288 := bkb_ BK288 hb; replace HB := hbs_ hb; clear hb ho5))
 go_loopg [5, 11] k (fun kq v5 v11 w' => ∃ (x5_1 : List Int) (x11_1 : Int), v11 = .int .i64 x11_1 ∧ Aside0 (impl_whoOf.l0 kq x5_1 l0 (l0.length : Int) x11_1 a1_0 a1_1 = some r) ∧ Aside0 (kq ≤ k) ∧ Aside0 (Kd.R (Kd.int .i64) 3 w' w.heap.size (fun _ => True) v5 x5_1) ∧ Aside0 (w'.heap[gb288]? = some (.cells #[.int .i64 a1_0, .int .i64 a1_1] 26 (0, 0))) ∧ Aside0 (Below w.heap.size w w'))
 case atStart => exact ⟨(y289), (0), rf_, H', ⟨Nat.le_refl _⟩, ⟨rr_ HO291⟩, ⟨bk_ BK288⟩, ⟨bl_⟩⟩
 case round =>
  clear H'
  try clear p2
  obtain ⟨x5_1, x11_1, rfl, HA, HK1, HO_5, BK288, HB⟩ := hrel
  cases gk with
  | zero => exact absurd HA.out (by simp [impl_whoOf.l0])
  | succ k1 =>
   have H := HA.out
   clear HA
   simp only [impl_whoOf.l0] at H
   by_cases c6 : x11_1 < (l0.length : Int)
   ·rw [if_pos c6] at H
    have c6b0 : decide (x11_1 < (l0.length : Int)) = true := decide_eq_true c6
    clear c6
    obtain ⟨c7b0, H⟩ := ifd_ H
    obtain ⟨c8b0, H⟩ := ifd_ H
    by_cases c9 : (((rd_T28 l0 x11_1).f0.f0) == a1_0 && (((rd_T28 l0 x11_1).f0.f1) == a1_1)) = true
    ·rw [if_pos c9] at H
     have c9b0 : (((rd_T28 l0 x11_1).f0.f0) == a1_0 && (((rd_T28 l0 x11_1).f0.f1) == a1_1)) = true := c9
     (try (have c9b1 : decide (((rd_T28 l0 x11_1).f0.f0) = a1_0 && (((rd_T28 l0 x11_1).f0.f1) == a1_1)) = true := by simpa using c9))
     (try (have c9b2 : (((rd_T28 l0 x11_1).f0.f0) == a1_0 && (((rd_T28 l0 x11_1).f0.f1) == a1_1)) = true := by simpa using c9))
     clear c9
     obtain ⟨t294, A10, H⟩ := bindE_ H
     have HC11 := aa_ H
     clear H
     have p292 : 0 ≤ (x11_1 : Int) := od_
     have q292 : x11_1 < (l0.length : Int) := od_
     obtain ⟨ad292, e292, hx292_0, hx292_1, hx292_2⟩ := at_T28 (Kd.C_below HR0.out HB.out) x11_1 p292 q292
     cases e292
     replace p292 := eq_true p292
     replace q292 := eq_true q292
     go_upto_if 23 with (first | ((with_reducible refine gD_ 7 rfl ?_); refine bx_ (N := 7) (cs := #[.int .i64 0, .int .i64 0, .int .i64 0]) (t := 28) ?_; intro gb293 hg w12 hbox hb; replace HO_5 := hob_ HO_5 hb; have BK293 := aa_ (hbox); have GW293 := gs_ hg; have GE293 := gs_ hg; replace HB := hbs_ hb; have NB288_293 := nl_ hg BK288; have NB293_288 := nr_ hg BK288; replace BK288 := bkb_ BK288 hb; clear hb hbox hg; have hnb13 := NB293_288.out; have hnc13 := NB288_293.out; obtain ⟨hcz14, hfz14⟩ := bcf_ BK293; obtain ⟨hcz15, hfz15⟩ := bcf_ BK288) | (go_at_call 65; (with_reducible refine (impl_factOk.calls ((rd_T28 l0 x11_1).f0.f0) ((rd_T28 l0 x11_1).f0.f1) ((rd_T28 l0 x11_1).f1) t294 _ A10.out).mono ?_); rintro e w16 ⟨rfl, hb⟩; replace HO_5 := aa_ (Kd.R_below (by (with_reducible repeat (first | apply Kd.R_alloc | apply Kd.R_drewN | apply Kd.R_drew)); exact (Kd.R_mono (fr3_ (Kd.R_types HO_5.out BK293.out (by decide)) (fun _ hk => hk.2)) (fun _ h_ => h_.1))) hb); replace BK288 := aa_ (blk_below (g := gb288) (o := .cells #[.int .i64 a1_0, .int .i64 a1_1] 26 (0, 0)) (bk_ BK288) hb); replace BK293 := aa_ (blk_below (g := gb293) (o := .cells #[.int .i64 ((rd_T28 l0 x11_1).f0.f0), .int .i64 ((rd_T28 l0 x11_1).f0.f1), .int .i64 ((rd_T28 l0 x11_1).f1)] 28 (0, 0)) (bk_ BK293) hb); replace HB := hbs_ hb; clear hb))
     (try simp only [Act.put, sb_, sz_, ss_])
     have H := HC11.out
     clear HC11
     by_cases c17 : t294 = true
     ·subst c17
      replace H := ite_t_ H
      obtain ⟨c18, H⟩ := ifn_ H
      have LMc18 := aa_ c18
      clear c18
      obtain ⟨y295, hy295⟩ : ∃ y_ : List Int, y_ = (x5_1 ++ [x11_1]) := ⟨_, rfl⟩
      replace H : (impl_whoOf.l0 k1 y295 l0 (l0.length : Int) (wrap64 (x11_1 + 1)) a1_0 a1_1) = some r := rh_ hy295 H
      have Ny295 := aa_ hy295
      clear hy295
      have H' := aa_ H
      clear H
      go_wp2_with (first | ((with_reducible refine gate_builtin (b := .append) (xs := #[.tmp 24, .tmp 26]) rfl ?_); at_builtin; refine Kd.R_append (Kd.int .i64) (w0 := w) w.heap.size rfl (.tmp 24) (.tmp 26) 53 3 (.int .i64 0) 8 rfl Try.underlying53 info3 rfl (by decide) (by omega) u5 x5_1 x11_1 [.int .i64 x11_1] (fun _ => True) (fun _ => False) rfl rfl ?aP (fun _ hk => hk.elim) ?aF ?aO ?aB ?aS ?aL ?_; (case aP => exact rfl); (case aB => exact bl_); (case aF => exact (fun _ _ => trivial)); (case aO => exact (rr_ HO_5)); (case aS => exact bls_); (case aL => have := LMc18.out; omega); intro v296 w19 ho hb hg hat; rw [← Ny295.out] at ho; replace BK288 := aa_ (blk_grown (g := gb288) (o := .cells #[.int .i64 a1_0, .int .i64 a1_1] 26 (0, 0)) (bk_ BK288) hg (Kd.R_ne HO_5.out BK288.out (by decide))); replace BK293 := aa_ (blk_grown (g := gb293) (o := .cells #[.int .i64 ((rd_T28 l0 x11_1).f0.f0), .int .i64 ((rd_T28 l0 x11_1).f0.f1), .int .i64 ((rd_T28 l0 x11_1).f1)] 28 (0, 0)) (bk_ BK293) hg (Kd.R_ne HO_5.out BK293.out (by decide))); replace HB := aa_ (hb); have HO297 := aa_ (ho); clear HO_5; clear ho hb hg hat))
      go_roundg k1
      case measure => have := HK1.out; omega
      case rel => exact ⟨(y295), (wrap64 (x11_1 + 1)), rf_, H', ⟨by have := HK1.out; omega⟩, ⟨rr_ HO297⟩, ⟨bk_ BK288⟩, ⟨bl_⟩⟩
     ·replace c17 := Bool.eq_false_iff.mpr c17
      subst c17
      replace H := ite_f_ H
      have H' := aa_ H
      clear H
      go_wp2
      go_roundg k1
      case measure => have := HK1.out; omega
      case rel => exact ⟨(x5_1), (wrap64 (x11_1 + 1)), rf_, H', ⟨by have := HK1.out; omega⟩, ⟨rr_ HO_5⟩, ⟨bk_ BK288⟩, ⟨bl_⟩⟩
    ·rw [if_neg c9] at H
     have c9b0 : (((rd_T28 l0 x11_1).f0.f0) == a1_0 && (((rd_T28 l0 x11_1).f0.f1) == a1_1)) = false := by simpa using c9
     (try (have c9b1 : decide (((rd_T28 l0 x11_1).f0.f0) = a1_0 && (((rd_T28 l0 x11_1).f0.f1) == a1_1)) = false := by simpa using c9))
     (try (have c9b2 : (((rd_T28 l0 x11_1).f0.f0) == a1_0 && (((rd_T28 l0 x11_1).f0.f1) == a1_1)) = false := by simpa using c9))
     (try (have c9b3 : ¬ (((rd_T28 l0 x11_1).f0.f0) = a1_0 && (((rd_T28 l0 x11_1).f0.f1) == a1_1)) := by simpa using c9))
     clear c9
     have H' := aa_ H
     clear H
     have p292 : 0 ≤ (x11_1 : Int) := od_
     have q292 : x11_1 < (l0.length : Int) := od_
     obtain ⟨ad292, e292, hx292_0, hx292_1, hx292_2⟩ := at_T28 (Kd.C_below HR0.out HB.out) x11_1 p292 q292
     cases e292
     replace p292 := eq_true p292
     replace q292 := eq_true q292
     go_wp2_with (first | ((with_reducible refine gD_ 7 rfl ?_); refine bx_ (N := 7) (cs := #[.int .i64 0, .int .i64 0, .int .i64 0]) (t := 28) ?_; intro gb293 hg w20 hbox hb; replace HO_5 := hob_ HO_5 hb; have BK293 := aa_ (hbox); have GW293 := gs_ hg; have GE293 := gs_ hg; replace HB := hbs_ hb; have NB288_293 := nl_ hg BK288; have NB293_288 := nr_ hg BK288; replace BK288 := bkb_ BK288 hb; clear hb hbox hg; have hnb21 := NB293_288.out; have hnc21 := NB288_293.out; obtain ⟨hcz22, hfz22⟩ := bcf_ BK293; obtain ⟨hcz23, hfz23⟩ := bcf_ BK288))
     go_roundg k1
     case measure => have := HK1.out; omega
     case rel => exact ⟨(x5_1), (wrap64 (x11_1 + 1)), rf_, H', ⟨by have := HK1.out; omega⟩, ⟨by (with_reducible repeat (first | apply Kd.R_alloc | apply Kd.R_drewN | apply Kd.R_drew)); exact Kd.R_mono (fr3_ (Kd.R_types HO_5.out BK293.out (by decide)) (fun _ hk => hk.2)) (fun _ hk => trivial)⟩, ⟨bk_ BK288⟩, ⟨bl_⟩⟩
   ·rw [if_neg c6] at H
    have c6b0 : decide (x11_1 < (l0.length : Int)) = false := decide_eq_false c6
    clear c6
    obtain rfl := Option.some.inj H
    go_wp2
    go_ret
    exact ⟨_, eq_, by (with_reducible repeat (first | apply Kd.R_alloc | apply Kd.R_drewN | apply Kd.R_drew)); exact HO_5.out, bl_⟩
end Go.Proofs.Ytljhfomkakhflaa.PA
