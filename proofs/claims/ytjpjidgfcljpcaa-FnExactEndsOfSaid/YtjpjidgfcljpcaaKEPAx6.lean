import Derived.Test.YtjpjidgfcljpcaaKEPAx2
-- printed by wip/tools
namespace Go.Proofs.Ytjpjidgfcljpcaa.PA
open Go.RowKit Go.Proofs.YtjpjidgfcljpcaaW.PrintWords Go.Proofs.YtjpjidgfcljpcaaW.PrintLast Go.Proofs.YtjpjidgfcljpcaaW.PrintMore
attribute [local go_sem] max2_int min2_int max_two min_two max_three min_three max_four min_four
set_option linter.unusedVariables false
set_option linter.unusedSimpArgs false
attribute [local go_sem high] eqA49 eqA51
def impl_in.f (a0 : Int) (a1 : Int) (a2 : Int) : Option (Bool) := if a0 ≥ a1 then (some (decide (a0 ≤ a2))) else (some false)
set_option maxHeartbeats 8000000 in
set_option maxRecDepth 100000 in
theorem impl_in.calls (a0 : Int) (a1 : Int) (a2 : Int) (r : Bool) (w : World) (h : impl_in.f a0 a1 a2 = some r) :
  Calls Try.prog 121 #[.int .i64 a0, .int .i64 a1, .int .i64 a2] w fun e w' => e = .returned (.bool r) ∧ Drawn0 w w' := by
 have H : (if a0 ≥ a1 then (some (decide (a0 ≤ a2))) else (some false)) = some r := h
 clear h
 by_cases c4 : a0 ≥ a1
 ·rw [if_pos c4] at H
  have c4b0 : decide (a1 ≤ a0) = true := decide_eq_true c4
  clear c4
  obtain rfl := Option.some.inj H
  go_enter Try.func121, Try.ntmps121
  go_wp2
  go_ret
  exact ⟨by first | rfl | (simp; done) | (simp [*]; done), by repeat (first | exact Drawn0.refl _ | apply Drawn0.step)⟩
 ·rw [if_neg c4] at H
  have c4b0 : decide (a1 ≤ a0) = false := decide_eq_false c4
  clear c4
  obtain rfl := Option.some.inj H
  go_enter Try.func121, Try.ntmps121
  go_wp2
  go_ret
  exact ⟨by first | rfl | (simp; done) | (simp [*]; done), by repeat (first | exact Drawn0.refl _ | apply Drawn0.step)⟩
def impl_RoleOk.f (a0_0 : Int) (a0_1 : Int) : Option (Bool) := (impl_in.f a0_0 0 5).bind fun t149 => (if t149 = true then ((impl_in.f a0_1 0 3).bind fun t150 => (some t150)) else (some false))
set_option maxHeartbeats 8000000 in
set_option maxRecDepth 100000 in
theorem impl_RoleOk.calls (a0_0 : Int) (a0_1 : Int) (r : Bool) (w : World) (h : impl_RoleOk.f a0_0 a0_1 = some r) :
  Calls Try.prog 122 #[.agg #[.int .i64 a0_0, .int .i64 a0_1]] w fun e w' => e = .returned (.bool r) ∧ Below w.heap.size w w' := by
 have hu49 := Try.underlying49
 have HB := Aside0.mk (Below.refl w.heap.size w)
 have H : ((impl_in.f a0_0 0 5).bind fun t149 => (if t149 = true then ((impl_in.f a0_1 0 3).bind fun t150 => (some t150)) else (some false))) = some r := h
 clear h
 obtain ⟨t149, A2, H⟩ := bindE_ H
 by_cases c3 : t149 = true
 ·subst c3
  replace H := ite_t_ H
  obtain ⟨t150, A4, H⟩ := bindE_ H
  obtain rfl := Option.some.inj H
  go_enter Try.func122, Try.ntmps122
  go_wp2_with (first | ((with_reducible refine gate_dst (N := 1) rfl ?_); refine box_event ?hg (N := 1) ?hd (cs := #[.int .i64 a0_0, .int .i64 a0_1]) (t := 49) ?hr ?_; (case hd => rfl); (case hg => rfl); (case hr => first | (go_simp; done) | (go_simp; rfl)); intro gb148 hg w5 hbox hb; have BK148 := Aside0.mk (hbox); have GW148 := gs_ hg; have GE148 := gs_ hg; replace HB := hbs_ hb; clear hb hbox hg; have hcz6 := blk_cell BK148.out; have hfz6 := blk_frozen BK148.out) | ((with_reducible refine gate_callee (f := 121) rfl ?_); refine goesC_ (some 5) Try.func121 #[.int .i64 a0_0, .int .i64 0, .int .i64 5] ?_; (with_reducible refine (impl_in.calls a0_0 0 5 true _ A2.out).mono ?_); rintro e w' ⟨rfl, ⟨nd, rfl⟩⟩; refine ⟨_, rfl, ?_⟩) | (go_at_call 121; (with_reducible refine (impl_in.calls a0_1 0 3 t150 _ A4.out).mono ?_); rintro e w' ⟨rfl, ⟨nd, rfl⟩⟩))
  go_ret
  exact ⟨eq_, bl_⟩
 ·replace c3 := Bool.eq_false_iff.mpr c3
  subst c3
  replace H := ite_f_ H
  obtain rfl := Option.some.inj H
  go_enter Try.func122, Try.ntmps122
  go_wp2_with (first | ((with_reducible refine gate_dst (N := 1) rfl ?_); refine box_event ?hg (N := 1) ?hd (cs := #[.int .i64 a0_0, .int .i64 a0_1]) (t := 49) ?hr ?_; (case hd => rfl); (case hg => rfl); (case hr => first | (go_simp; done) | (go_simp; rfl)); intro gb148 hg w7 hbox hb; have BK148 := Aside0.mk (hbox); have GW148 := gs_ hg; have GE148 := gs_ hg; replace HB := hbs_ hb; clear hb hbox hg; have hcz8 := blk_cell BK148.out; have hfz8 := blk_frozen BK148.out) | ((with_reducible refine gate_callee (f := 121) rfl ?_); refine goesC_ (some 5) Try.func121 #[.int .i64 a0_0, .int .i64 0, .int .i64 5] ?_; (with_reducible refine (impl_in.calls a0_0 0 5 false _ A2.out).mono ?_); rintro e w' ⟨rfl, ⟨nd, rfl⟩⟩; refine ⟨_, rfl, ?_⟩))
  go_ret
  exact ⟨eq_, bl_⟩
def impl_isPerson.f (a0 : Int) : Option (Bool) := (impl_in.f a0 0 5).bind fun t151 => (some t151)
set_option maxHeartbeats 8000000 in
set_option maxRecDepth 100000 in
theorem impl_isPerson.calls (a0 : Int) (r : Bool) (w : World) (h : impl_isPerson.f a0 = some r) :
  Calls Try.prog 171 #[.int .i64 a0] w fun e w' => e = .returned (.bool r) ∧ Drawn0 w w' := by
 have H : ((impl_in.f a0 0 5).bind fun t151 => (some t151)) = some r := h
 clear h
 obtain ⟨t151, A2, H⟩ := bindE_ H
 obtain rfl := Option.some.inj H
 go_enter Try.func171, Try.ntmps171
 go_wp2_with (first | ((with_reducible refine gate_callee (f := 121) rfl ?_); refine goesC_ (some 4) Try.func121 #[.int .i64 a0, .int .i64 0, .int .i64 5] ?_; (with_reducible refine (impl_in.calls a0 0 5 t151 _ A2.out).mono ?_); rintro e w' ⟨rfl, ⟨nd, rfl⟩⟩; refine ⟨_, rfl, ?_⟩))
 go_ret
 exact ⟨by first | rfl | (simp; done) | (simp [*]; done), by repeat (first | exact Drawn0.refl _ | apply Drawn0.step)⟩
def impl_CredOk.j0 : Nat → Bool → Int → Int → Int → Int → Int → Int → Int → Int → Int → Int → Option (Bool)
 | 0, _, _, _, _, _, _, _, _, _, _, _ => none
 | k + 1, x19, x153000, x153001, x153002, x153003, x153004, x153005, x153006, x153007, x153008, x153009 => if x19 = true then (some false) else (if x153000 = 1 then ((impl_isPerson.f x153003).bind fun t157 => (if t157 = true then (if (x153004 == 0 && (x153005 == 0)) = true then (some (x153006 == 0 && (x153007 == 0))) else (some false)) else (some false))) else (if x153000 = 2 then (if x153003 = 0 then ((impl_RoleOk.f x153004 x153005).bind fun t158 => (if t158 = true then (some (x153006 == 0 && (x153007 == 0))) else (some false))) else (some false)) else (if x153000 = 3 then (if x153003 = 0 then ((impl_RoleOk.f x153004 x153005).bind fun t159 => (if t159 = true then ((impl_RoleOk.f x153006 x153007).bind fun t160 => (if t160 = true then (some (x153006 == 0)) else (some false))) else (some false))) else (some false)) else (if x153000 = 4 then (if x153003 = 0 then ((impl_RoleOk.f x153004 x153005).bind fun t161 => (if t161 = true then ((impl_RoleOk.f x153006 x153007).bind fun t162 => (some t162)) else (some false))) else (some false)) else (some false)))))
def impl_CredOk.f (k : Nat) (a0_0 : Int) (a0_1 : Int) (a0_2 : Int) (a0_3 : Int) (a0_4 : Int) (a0_5 : Int) (a0_6 : Int) (a0_7 : Int) (a0_8 : Int) (a0_9 : Int) : Option (Bool) := (impl_RoleOk.f a0_1 a0_2).bind fun t153 => (if t153 = true then ((impl_in.f a0_8 1 9999).bind fun t154 => (if t154 = true then ((impl_in.f a0_9 0 99).bind fun t155 => (impl_CredOk.j0 k (!t155) a0_0 a0_1 a0_2 a0_3 a0_4 a0_5 a0_6 a0_7 a0_8 a0_9)) else (impl_CredOk.j0 k true a0_0 a0_1 a0_2 a0_3 a0_4 a0_5 a0_6 a0_7 a0_8 a0_9))) else (impl_CredOk.j0 k true a0_0 a0_1 a0_2 a0_3 a0_4 a0_5 a0_6 a0_7 a0_8 a0_9))
set_option maxHeartbeats 8000000 in
set_option maxRecDepth 100000 in
theorem impl_CredOk.calls (k : Nat) (a0_0 : Int) (a0_1 : Int) (a0_2 : Int) (a0_3 : Int) (a0_4 : Int) (a0_5 : Int) (a0_6 : Int) (a0_7 : Int) (a0_8 : Int) (a0_9 : Int) (r : Bool) (w : World) (h : impl_CredOk.f k a0_0 a0_1 a0_2 a0_3 a0_4 a0_5 a0_6 a0_7 a0_8 a0_9 = some r) :
  Calls Try.prog 96 #[.agg #[.int .i64 a0_0, .int .i64 a0_1, .int .i64 a0_2, .int .i64 a0_3, .int .i64 a0_4, .int .i64 a0_5, .int .i64 a0_6, .int .i64 a0_7, .int .i64 a0_8, .int .i64 a0_9]] w fun e w' => e = .returned (.bool r) ∧ Below w.heap.size w w' := by
 have hu56 := Try.underlying56
 have hu49 := Try.underlying49
 have HB := Aside0.mk (Below.refl w.heap.size w)
 have H : ((impl_RoleOk.f a0_1 a0_2).bind fun t153 => (if t153 = true then ((impl_in.f a0_8 1 9999).bind fun t154 => (if t154 = true then ((impl_in.f a0_9 0 99).bind fun t155 => (impl_CredOk.j0 k (!t155) a0_0 a0_1 a0_2 a0_3 a0_4 a0_5 a0_6 a0_7 a0_8 a0_9)) else (impl_CredOk.j0 k true a0_0 a0_1 a0_2 a0_3 a0_4 a0_5 a0_6 a0_7 a0_8 a0_9))) else (impl_CredOk.j0 k true a0_0 a0_1 a0_2 a0_3 a0_4 a0_5 a0_6 a0_7 a0_8 a0_9))) = some r := h
 clear h
 have HC2 := Aside0.mk H
 clear H
 go_enter Try.func96, Try.ntmps96
 go_upto_region 1 with (first | ((with_reducible refine gate_dst (N := 1) rfl ?_); refine box_event ?hg (N := 1) ?hd (cs := #[.int .i64 a0_0, .int .i64 a0_1, .int .i64 a0_2, .int .i64 a0_3, .int .i64 a0_4, .int .i64 a0_5, .int .i64 a0_6, .int .i64 a0_7, .int .i64 a0_8, .int .i64 a0_9]) (t := 56) ?hr ?_; (case hd => rfl); (case hg => rfl); (case hr => first | (go_simp; done) | (go_simp; rfl)); intro gb152 hg w3 hbox hb; have BK152 := Aside0.mk (hbox); have GW152 := gs_ hg; have GE152 := gs_ hg; replace HB := hbs_ hb; clear hb hbox hg))
 (try simp only [Act.put, List.setIfInBounds_toArray, List.set_cons_zero, List.set_cons_succ])
 go_cut [19] (fun v19 wc => ∃ (kq : Nat) (x19_1 : Bool), v19 = .bool x19_1 ∧ Aside0 (impl_CredOk.j0 kq x19_1 a0_0 a0_1 a0_2 a0_3 a0_4 a0_5 a0_6 a0_7 a0_8 a0_9 = some r) ∧ Aside0 (kq ≤ k) ∧ Aside0 (wc.heap[gb152]? = some (.cells #[.int .i64 a0_0, .int .i64 a0_1, .int .i64 a0_2, .int .i64 a0_3, .int .i64 a0_4, .int .i64 a0_5, .int .i64 a0_6, .int .i64 a0_7, .int .i64 a0_8, .int .i64 a0_9] 56 (0, 0))) ∧ Aside0 (Below w.heap.size w wc))
 case first =>
  have H := HC2.out
  clear HC2
  obtain ⟨t153, A4, H⟩ := bindE_ H
  by_cases c5 : t153 = true
  ·subst c5
   replace H := ite_t_ H
   obtain ⟨t154, A6, H⟩ := bindE_ H
   by_cases c7 : t154 = true
   ·subst c7
    replace H := ite_t_ H
    obtain ⟨t155, A8, H⟩ := bindE_ H
    have H' := Aside0.mk H
    clear H
    have hcz9 := blk_cell BK152.out
    have hfz9 := blk_frozen BK152.out
    go_wp2_with (first | ((with_reducible refine gate_callee (f := 122) rfl ?_); refine goesC_ (some 6) Try.func122 #[.agg #[.int .i64 a0_1, .int .i64 a0_2]] ?_; (with_reducible refine (impl_RoleOk.calls a0_1 a0_2 true _ A4.out).mono ?_); rintro e w10 ⟨rfl, hb⟩; refine ⟨_, rfl, ?_⟩; replace BK152 := bkb_ BK152 hb; replace HB := hbs_ hb; clear hb; have hcz11 := blk_cell BK152.out; have hfz11 := blk_frozen BK152.out) | (go_at_call 121; (with_reducible refine (impl_in.calls a0_8 1 9999 true _ A6.out).mono ?_); rintro e w' ⟨rfl, ⟨nd, rfl⟩⟩) | (go_at_call 121; (with_reducible refine (impl_in.calls a0_9 0 99 t155 _ A8.out).mono ?_); rintro e w' ⟨rfl, ⟨nd, rfl⟩⟩))
    go_meet
    case rel => exact ⟨_, (!t155), rf_, H', ⟨by first | omega | exact Nat.le_refl _⟩, ⟨bk_ BK152⟩, ⟨bl_⟩⟩
   ·replace c7 := Bool.eq_false_iff.mpr c7
    subst c7
    replace H := ite_f_ H
    have H' := Aside0.mk H
    clear H
    have hcz12 := blk_cell BK152.out
    have hfz12 := blk_frozen BK152.out
    go_wp2_with (first | ((with_reducible refine gate_callee (f := 122) rfl ?_); refine goesC_ (some 6) Try.func122 #[.agg #[.int .i64 a0_1, .int .i64 a0_2]] ?_; (with_reducible refine (impl_RoleOk.calls a0_1 a0_2 true _ A4.out).mono ?_); rintro e w13 ⟨rfl, hb⟩; refine ⟨_, rfl, ?_⟩; replace BK152 := bkb_ BK152 hb; replace HB := hbs_ hb; clear hb; have hcz14 := blk_cell BK152.out; have hfz14 := blk_frozen BK152.out) | (go_at_call 121; (with_reducible refine (impl_in.calls a0_8 1 9999 false _ A6.out).mono ?_); rintro e w' ⟨rfl, ⟨nd, rfl⟩⟩))
    go_meet
    case rel => exact ⟨_, (true), rf_, H', ⟨by first | omega | exact Nat.le_refl _⟩, ⟨bk_ BK152⟩, ⟨bl_⟩⟩
  ·replace c5 := Bool.eq_false_iff.mpr c5
   subst c5
   replace H := ite_f_ H
   have H' := Aside0.mk H
   clear H
   have hcz15 := blk_cell BK152.out
   have hfz15 := blk_frozen BK152.out
   go_wp2_with (first | ((with_reducible refine gate_callee (f := 122) rfl ?_); refine goesC_ (some 6) Try.func122 #[.agg #[.int .i64 a0_1, .int .i64 a0_2]] ?_; (with_reducible refine (impl_RoleOk.calls a0_1 a0_2 false _ A4.out).mono ?_); rintro e w16 ⟨rfl, hb⟩; refine ⟨_, rfl, ?_⟩; replace BK152 := bkb_ BK152 hb; replace HB := hbs_ hb; clear hb))
   go_meet
   case rel => exact ⟨_, (true), rf_, H', ⟨by first | omega | exact Nat.le_refl _⟩, ⟨bk_ BK152⟩, ⟨bl_⟩⟩
 case rest =>
  clear HC2
  try clear c1
  try clear p2
  try clear c5
  try clear c7
  try clear c9
  try clear c12
  try clear hcz11
  try clear hcz12
  try clear hcz14
  try clear hcz15
  try clear hcz9
  try clear hfz11
  try clear hfz12
  try clear hfz14
  try clear hfz15
  try clear hfz9
  obtain ⟨kq, x19_1, rfl, HA, HJ1, BK152, HB⟩ := hcut
  cases kq with
  | zero => exact absurd HA.out (by simp [impl_CredOk.j0])
  | succ kj1 =>
   have H := HA.out
   clear HA
   simp only [impl_CredOk.j0] at H
   by_cases c17 : x19_1 = true
   ·subst c17
    replace H := ite_t_ H
    obtain rfl := Option.some.inj H
    go_wp2
    go_ret
    exact ⟨eq_, bl_⟩
   ·replace c17 := Bool.eq_false_iff.mpr c17
    subst c17
    replace H := ite_f_ H
    by_cases c18 : a0_0 = 1
    ·rw [if_pos c18] at H
     have c18b0 : (a0_0 == 1) = true := beq_iff_eq.mpr c18
     have c18b1 : (a0_0 != 1) = false := bne_eq_false_iff_eq.mpr c18
     clear c18
     obtain ⟨t157, A19, H⟩ := bindE_ H
     by_cases c20 : t157 = true
     ·subst c20
      replace H := ite_t_ H
      by_cases c21 : (a0_4 == 0 && (a0_5 == 0)) = true
      ·rw [if_pos c21] at H
       have c21b0 : (a0_4 == 0 && (a0_5 == 0)) = true := c21
       (try (have c21b1 : decide (a0_4 = 0 && (a0_5 == 0)) = true := by simpa using c21))
       (try (have c21b2 : (a0_4 == 0 && (a0_5 == 0)) = true := by simpa using c21))
       clear c21
       obtain rfl := Option.some.inj H
       go_wp2_with (first | ((with_reducible refine gate_dst (N := 3) rfl ?_); refine box_event ?hg (N := 3) ?hd (cs := #[.int .i64 0, .int .i64 0]) (t := 49) ?hr ?_; (case hd => rfl); (case hg => rfl); (case hr => first | (go_simp; done) | (go_simp; rfl)); intro gb156 hg w22 hbox hb; have BK156 := Aside0.mk (hbox); have GW156 := gs_ hg; have GE156 := gs_ hg; replace HB := hbs_ hb; have NB152_156 := nl_ hg BK152; have NB156_152 := nr_ hg BK152; replace BK152 := bkb_ BK152 hb; clear hb hbox hg; have hnb23 := NB156_152.out; have hnc23 := NB152_156.out; have hcz24 := blk_cell BK156.out; have hfz24 := blk_frozen BK156.out; have hcz25 := blk_cell BK152.out; have hfz25 := blk_frozen BK152.out) | ((with_reducible refine gate_callee (f := 171) rfl ?_); refine goesC_ (some 27) Try.func171 #[.int .i64 a0_3] ?_; (with_reducible refine (impl_isPerson.calls a0_3 true _ A19.out).mono ?_); rintro e w' ⟨rfl, ⟨nd, rfl⟩⟩; refine ⟨_, rfl, ?_⟩))
       go_ret
       exact ⟨eq_, bl_⟩
      ·rw [if_neg c21] at H
       have c21b0 : (a0_4 == 0 && (a0_5 == 0)) = false := by simpa using c21
       (try (have c21b1 : decide (a0_4 = 0 && (a0_5 == 0)) = false := by simpa using c21))
       (try (have c21b2 : (a0_4 == 0 && (a0_5 == 0)) = false := by simpa using c21))
       (try (have c21b3 : ¬ (a0_4 = 0 && (a0_5 == 0)) := by simpa using c21))
       clear c21
       obtain rfl := Option.some.inj H
       go_wp2_with (first | ((with_reducible refine gate_dst (N := 3) rfl ?_); refine box_event ?hg (N := 3) ?hd (cs := #[.int .i64 0, .int .i64 0]) (t := 49) ?hr ?_; (case hd => rfl); (case hg => rfl); (case hr => first | (go_simp; done) | (go_simp; rfl)); intro gb156 hg w26 hbox hb; have BK156 := Aside0.mk (hbox); have GW156 := gs_ hg; have GE156 := gs_ hg; replace HB := hbs_ hb; have NB152_156 := nl_ hg BK152; have NB156_152 := nr_ hg BK152; replace BK152 := bkb_ BK152 hb; clear hb hbox hg; have hnb27 := NB156_152.out; have hnc27 := NB152_156.out; have hcz28 := blk_cell BK156.out; have hfz28 := blk_frozen BK156.out; have hcz29 := blk_cell BK152.out; have hfz29 := blk_frozen BK152.out) | ((with_reducible refine gate_callee (f := 171) rfl ?_); refine goesC_ (some 27) Try.func171 #[.int .i64 a0_3] ?_; (with_reducible refine (impl_isPerson.calls a0_3 true _ A19.out).mono ?_); rintro e w' ⟨rfl, ⟨nd, rfl⟩⟩; refine ⟨_, rfl, ?_⟩))
       go_ret
       exact ⟨eq_, bl_⟩
     ·replace c20 := Bool.eq_false_iff.mpr c20
      subst c20
      replace H := ite_f_ H
      obtain rfl := Option.some.inj H
      go_wp2_with (first | ((with_reducible refine gate_dst (N := 3) rfl ?_); refine box_event ?hg (N := 3) ?hd (cs := #[.int .i64 0, .int .i64 0]) (t := 49) ?hr ?_; (case hd => rfl); (case hg => rfl); (case hr => first | (go_simp; done) | (go_simp; rfl)); intro gb156 hg w30 hbox hb; have BK156 := Aside0.mk (hbox); have GW156 := gs_ hg; have GE156 := gs_ hg; replace HB := hbs_ hb; have NB152_156 := nl_ hg BK152; have NB156_152 := nr_ hg BK152; replace BK152 := bkb_ BK152 hb; clear hb hbox hg; have hnb31 := NB156_152.out; have hnc31 := NB152_156.out; have hcz32 := blk_cell BK156.out; have hfz32 := blk_frozen BK156.out; have hcz33 := blk_cell BK152.out; have hfz33 := blk_frozen BK152.out) | ((with_reducible refine gate_callee (f := 171) rfl ?_); refine goesC_ (some 27) Try.func171 #[.int .i64 a0_3] ?_; (with_reducible refine (impl_isPerson.calls a0_3 false _ A19.out).mono ?_); rintro e w' ⟨rfl, ⟨nd, rfl⟩⟩; refine ⟨_, rfl, ?_⟩))
      go_ret
      exact ⟨eq_, bl_⟩
    ·rw [if_neg c18] at H
     have c18b0 : (a0_0 == 1) = false := beq_eq_false_iff_ne.mpr c18
     have c18b1 : (a0_0 != 1) = true := bne_iff_ne.mpr c18
     by_cases c34 : a0_0 = 2
     ·rw [if_pos c34] at H
      have c34b0 : (a0_0 == 2) = true := beq_iff_eq.mpr c34
      have c34b1 : (a0_0 != 2) = false := bne_eq_false_iff_eq.mpr c34
      clear c34
      by_cases c35 : a0_3 = 0
      ·rw [if_pos c35] at H
       have c35b0 : (a0_3 == 0) = true := beq_iff_eq.mpr c35
       have c35b1 : (a0_3 != 0) = false := bne_eq_false_iff_eq.mpr c35
       clear c35
       obtain ⟨t158, A36, H⟩ := bindE_ H
       by_cases c37 : t158 = true
       ·subst c37
        replace H := ite_t_ H
        obtain rfl := Option.some.inj H
        go_wp2_with (first | ((with_reducible refine gate_dst (N := 3) rfl ?_); refine box_event ?hg (N := 3) ?hd (cs := #[.int .i64 0, .int .i64 0]) (t := 49) ?hr ?_; (case hd => rfl); (case hg => rfl); (case hr => first | (go_simp; done) | (go_simp; rfl)); intro gb156 hg w38 hbox hb; have BK156 := Aside0.mk (hbox); have GW156 := gs_ hg; have GE156 := gs_ hg; replace HB := hbs_ hb; have NB152_156 := nl_ hg BK152; have NB156_152 := nr_ hg BK152; replace BK152 := bkb_ BK152 hb; clear hb hbox hg; have hnb39 := NB156_152.out; have hnc39 := NB152_156.out; have hcz40 := blk_cell BK156.out; have hfz40 := blk_frozen BK156.out; have hcz41 := blk_cell BK152.out; have hfz41 := blk_frozen BK152.out) | (go_at_call 122; (with_reducible refine (impl_RoleOk.calls a0_4 a0_5 true _ A36.out).mono ?_); rintro e w42 ⟨rfl, hb⟩; replace BK152 := Aside0.mk (blk_below (g := gb152) (o := .cells #[.int .i64 a0_0, .int .i64 a0_1, .int .i64 a0_2, .int .i64 a0_3, .int .i64 a0_4, .int .i64 a0_5, .int .i64 a0_6, .int .i64 a0_7, .int .i64 a0_8, .int .i64 a0_9] 56 (0, 0)) (bk_ BK152) hb); replace BK156 := Aside0.mk (blk_below (g := gb156) (o := .cells #[.int .i64 0, .int .i64 0] 49 (0, 0)) (bk_ BK156) hb); replace HB := hbs_ hb; clear hb; have hcz43 := blk_cell BK152.out; have hfz43 := blk_frozen BK152.out; have hcz44 := blk_cell BK156.out; have hfz44 := blk_frozen BK156.out))
        go_ret
        exact ⟨eq_, bl_⟩
       ·replace c37 := Bool.eq_false_iff.mpr c37
        subst c37
        replace H := ite_f_ H
        obtain rfl := Option.some.inj H
        go_wp2_with (first | ((with_reducible refine gate_dst (N := 3) rfl ?_); refine box_event ?hg (N := 3) ?hd (cs := #[.int .i64 0, .int .i64 0]) (t := 49) ?hr ?_; (case hd => rfl); (case hg => rfl); (case hr => first | (go_simp; done) | (go_simp; rfl)); intro gb156 hg w45 hbox hb; have BK156 := Aside0.mk (hbox); have GW156 := gs_ hg; have GE156 := gs_ hg; replace HB := hbs_ hb; have NB152_156 := nl_ hg BK152; have NB156_152 := nr_ hg BK152; replace BK152 := bkb_ BK152 hb; clear hb hbox hg; have hnb46 := NB156_152.out; have hnc46 := NB152_156.out; have hcz47 := blk_cell BK156.out; have hfz47 := blk_frozen BK156.out; have hcz48 := blk_cell BK152.out; have hfz48 := blk_frozen BK152.out) | (go_at_call 122; (with_reducible refine (impl_RoleOk.calls a0_4 a0_5 false _ A36.out).mono ?_); rintro e w49 ⟨rfl, hb⟩; replace BK152 := Aside0.mk (blk_below (g := gb152) (o := .cells #[.int .i64 a0_0, .int .i64 a0_1, .int .i64 a0_2, .int .i64 a0_3, .int .i64 a0_4, .int .i64 a0_5, .int .i64 a0_6, .int .i64 a0_7, .int .i64 a0_8, .int .i64 a0_9] 56 (0, 0)) (bk_ BK152) hb); replace BK156 := Aside0.mk (blk_below (g := gb156) (o := .cells #[.int .i64 0, .int .i64 0] 49 (0, 0)) (bk_ BK156) hb); replace HB := hbs_ hb; clear hb))
        go_ret
        exact ⟨eq_, bl_⟩
      ·rw [if_neg c35] at H
       have c35b0 : (a0_3 == 0) = false := beq_eq_false_iff_ne.mpr c35
       have c35b1 : (a0_3 != 0) = true := bne_iff_ne.mpr c35
       obtain rfl := Option.some.inj H
       go_wp2_with (first | ((with_reducible refine gate_dst (N := 3) rfl ?_); refine box_event ?hg (N := 3) ?hd (cs := #[.int .i64 0, .int .i64 0]) (t := 49) ?hr ?_; (case hd => rfl); (case hg => rfl); (case hr => first | (go_simp; done) | (go_simp; rfl)); intro gb156 hg w50 hbox hb; have BK156 := Aside0.mk (hbox); have GW156 := gs_ hg; have GE156 := gs_ hg; replace HB := hbs_ hb; have NB152_156 := nl_ hg BK152; have NB156_152 := nr_ hg BK152; replace BK152 := bkb_ BK152 hb; clear hb hbox hg; have hnb51 := NB156_152.out; have hnc51 := NB152_156.out; have hcz52 := blk_cell BK156.out; have hfz52 := blk_frozen BK156.out; have hcz53 := blk_cell BK152.out; have hfz53 := blk_frozen BK152.out))
       go_ret
       exact ⟨eq_, bl_⟩
     ·rw [if_neg c34] at H
      have c34b0 : (a0_0 == 2) = false := beq_eq_false_iff_ne.mpr c34
      have c34b1 : (a0_0 != 2) = true := bne_iff_ne.mpr c34
      by_cases c54 : a0_0 = 3
      ·rw [if_pos c54] at H
       have c54b0 : (a0_0 == 3) = true := beq_iff_eq.mpr c54
       have c54b1 : (a0_0 != 3) = false := bne_eq_false_iff_eq.mpr c54
       clear c54
       by_cases c55 : a0_3 = 0
       ·rw [if_pos c55] at H
        have c55b0 : (a0_3 == 0) = true := beq_iff_eq.mpr c55
        have c55b1 : (a0_3 != 0) = false := bne_eq_false_iff_eq.mpr c55
        clear c55
        obtain ⟨t159, A56, H⟩ := bindE_ H
        by_cases c57 : t159 = true
        ·subst c57
         replace H := ite_t_ H
         obtain ⟨t160, A58, H⟩ := bindE_ H
         by_cases c59 : t160 = true
         ·subst c59
          replace H := ite_t_ H
          obtain rfl := Option.some.inj H
          go_wp2_with (first | ((with_reducible refine gate_dst (N := 3) rfl ?_); refine box_event ?hg (N := 3) ?hd (cs := #[.int .i64 0, .int .i64 0]) (t := 49) ?hr ?_; (case hd => rfl); (case hg => rfl); (case hr => first | (go_simp; done) | (go_simp; rfl)); intro gb156 hg w60 hbox hb; have BK156 := Aside0.mk (hbox); have GW156 := gs_ hg; have GE156 := gs_ hg; replace HB := hbs_ hb; have NB152_156 := nl_ hg BK152; have NB156_152 := nr_ hg BK152; replace BK152 := bkb_ BK152 hb; clear hb hbox hg; have hnb61 := NB156_152.out; have hnc61 := NB152_156.out; have hcz62 := blk_cell BK156.out; have hfz62 := blk_frozen BK156.out; have hcz63 := blk_cell BK152.out; have hfz63 := blk_frozen BK152.out) | (go_at_call 122; (with_reducible refine (impl_RoleOk.calls a0_4 a0_5 true _ A56.out).mono ?_); rintro e w64 ⟨rfl, hb⟩; replace BK152 := Aside0.mk (blk_below (g := gb152) (o := .cells #[.int .i64 a0_0, .int .i64 a0_1, .int .i64 a0_2, .int .i64 a0_3, .int .i64 a0_4, .int .i64 a0_5, .int .i64 a0_6, .int .i64 a0_7, .int .i64 a0_8, .int .i64 a0_9] 56 (0, 0)) (bk_ BK152) hb); replace BK156 := Aside0.mk (blk_below (g := gb156) (o := .cells #[.int .i64 0, .int .i64 0] 49 (0, 0)) (bk_ BK156) hb); replace HB := hbs_ hb; clear hb; have hcz65 := blk_cell BK152.out; have hfz65 := blk_frozen BK152.out) | (go_at_call 122; (with_reducible refine (impl_RoleOk.calls a0_6 a0_7 true _ A58.out).mono ?_); rintro e w66 ⟨rfl, hb⟩; replace BK152 := bkb_ BK152 hb; replace BK156 := bkb_ BK156 hb; replace HB := hbs_ hb; clear hb; have hcz67 := blk_cell BK152.out; have hfz67 := blk_frozen BK152.out))
          go_ret
          exact ⟨eq_, bl_⟩
         ·replace c59 := Bool.eq_false_iff.mpr c59
          subst c59
          replace H := ite_f_ H
          obtain rfl := Option.some.inj H
          go_wp2_with (first | ((with_reducible refine gate_dst (N := 3) rfl ?_); refine box_event ?hg (N := 3) ?hd (cs := #[.int .i64 0, .int .i64 0]) (t := 49) ?hr ?_; (case hd => rfl); (case hg => rfl); (case hr => first | (go_simp; done) | (go_simp; rfl)); intro gb156 hg w68 hbox hb; have BK156 := Aside0.mk (hbox); have GW156 := gs_ hg; have GE156 := gs_ hg; replace HB := hbs_ hb; have NB152_156 := nl_ hg BK152; have NB156_152 := nr_ hg BK152; replace BK152 := bkb_ BK152 hb; clear hb hbox hg; have hnb69 := NB156_152.out; have hnc69 := NB152_156.out; have hcz70 := blk_cell BK156.out; have hfz70 := blk_frozen BK156.out; have hcz71 := blk_cell BK152.out; have hfz71 := blk_frozen BK152.out) | (go_at_call 122; (with_reducible refine (impl_RoleOk.calls a0_4 a0_5 true _ A56.out).mono ?_); rintro e w72 ⟨rfl, hb⟩; replace BK152 := Aside0.mk (blk_below (g := gb152) (o := .cells #[.int .i64 a0_0, .int .i64 a0_1, .int .i64 a0_2, .int .i64 a0_3, .int .i64 a0_4, .int .i64 a0_5, .int .i64 a0_6, .int .i64 a0_7, .int .i64 a0_8, .int .i64 a0_9] 56 (0, 0)) (bk_ BK152) hb); replace BK156 := Aside0.mk (blk_below (g := gb156) (o := .cells #[.int .i64 0, .int .i64 0] 49 (0, 0)) (bk_ BK156) hb); replace HB := hbs_ hb; clear hb; have hcz73 := blk_cell BK152.out; have hfz73 := blk_frozen BK152.out) | (go_at_call 122; (with_reducible refine (impl_RoleOk.calls a0_6 a0_7 false _ A58.out).mono ?_); rintro e w74 ⟨rfl, hb⟩; replace BK152 := bkb_ BK152 hb; replace BK156 := bkb_ BK156 hb; replace HB := hbs_ hb; clear hb))
          go_ret
          exact ⟨eq_, bl_⟩
        ·replace c57 := Bool.eq_false_iff.mpr c57
         subst c57
         replace H := ite_f_ H
         obtain rfl := Option.some.inj H
         go_wp2_with (first | ((with_reducible refine gate_dst (N := 3) rfl ?_); refine box_event ?hg (N := 3) ?hd (cs := #[.int .i64 0, .int .i64 0]) (t := 49) ?hr ?_; (case hd => rfl); (case hg => rfl); (case hr => first | (go_simp; done) | (go_simp; rfl)); intro gb156 hg w75 hbox hb; have BK156 := Aside0.mk (hbox); have GW156 := gs_ hg; have GE156 := gs_ hg; replace HB := hbs_ hb; have NB152_156 := nl_ hg BK152; have NB156_152 := nr_ hg BK152; replace BK152 := bkb_ BK152 hb; clear hb hbox hg; have hnb76 := NB156_152.out; have hnc76 := NB152_156.out; have hcz77 := blk_cell BK156.out; have hfz77 := blk_frozen BK156.out; have hcz78 := blk_cell BK152.out; have hfz78 := blk_frozen BK152.out) | (go_at_call 122; (with_reducible refine (impl_RoleOk.calls a0_4 a0_5 false _ A56.out).mono ?_); rintro e w79 ⟨rfl, hb⟩; replace BK152 := Aside0.mk (blk_below (g := gb152) (o := .cells #[.int .i64 a0_0, .int .i64 a0_1, .int .i64 a0_2, .int .i64 a0_3, .int .i64 a0_4, .int .i64 a0_5, .int .i64 a0_6, .int .i64 a0_7, .int .i64 a0_8, .int .i64 a0_9] 56 (0, 0)) (bk_ BK152) hb); replace BK156 := Aside0.mk (blk_below (g := gb156) (o := .cells #[.int .i64 0, .int .i64 0] 49 (0, 0)) (bk_ BK156) hb); replace HB := hbs_ hb; clear hb))
         go_ret
         exact ⟨eq_, bl_⟩
       ·rw [if_neg c55] at H
        have c55b0 : (a0_3 == 0) = false := beq_eq_false_iff_ne.mpr c55
        have c55b1 : (a0_3 != 0) = true := bne_iff_ne.mpr c55
        obtain rfl := Option.some.inj H
        go_wp2_with (first | ((with_reducible refine gate_dst (N := 3) rfl ?_); refine box_event ?hg (N := 3) ?hd (cs := #[.int .i64 0, .int .i64 0]) (t := 49) ?hr ?_; (case hd => rfl); (case hg => rfl); (case hr => first | (go_simp; done) | (go_simp; rfl)); intro gb156 hg w80 hbox hb; have BK156 := Aside0.mk (hbox); have GW156 := gs_ hg; have GE156 := gs_ hg; replace HB := hbs_ hb; have NB152_156 := nl_ hg BK152; have NB156_152 := nr_ hg BK152; replace BK152 := bkb_ BK152 hb; clear hb hbox hg; have hnb81 := NB156_152.out; have hnc81 := NB152_156.out; have hcz82 := blk_cell BK156.out; have hfz82 := blk_frozen BK156.out; have hcz83 := blk_cell BK152.out; have hfz83 := blk_frozen BK152.out))
        go_ret
        exact ⟨eq_, bl_⟩
      ·rw [if_neg c54] at H
       have c54b0 : (a0_0 == 3) = false := beq_eq_false_iff_ne.mpr c54
       have c54b1 : (a0_0 != 3) = true := bne_iff_ne.mpr c54
       by_cases c84 : a0_0 = 4
       ·rw [if_pos c84] at H
        have c84b0 : (a0_0 == 4) = true := beq_iff_eq.mpr c84
        have c84b1 : (a0_0 != 4) = false := bne_eq_false_iff_eq.mpr c84
        clear c84
        by_cases c85 : a0_3 = 0
        ·rw [if_pos c85] at H
         have c85b0 : (a0_3 == 0) = true := beq_iff_eq.mpr c85
         have c85b1 : (a0_3 != 0) = false := bne_eq_false_iff_eq.mpr c85
         clear c85
         obtain ⟨t161, A86, H⟩ := bindE_ H
         by_cases c87 : t161 = true
         ·subst c87
          replace H := ite_t_ H
          obtain ⟨t162, A88, H⟩ := bindE_ H
          obtain rfl := Option.some.inj H
          go_wp2_with (first | ((with_reducible refine gate_dst (N := 3) rfl ?_); refine box_event ?hg (N := 3) ?hd (cs := #[.int .i64 0, .int .i64 0]) (t := 49) ?hr ?_; (case hd => rfl); (case hg => rfl); (case hr => first | (go_simp; done) | (go_simp; rfl)); intro gb156 hg w89 hbox hb; have BK156 := Aside0.mk (hbox); have GW156 := gs_ hg; have GE156 := gs_ hg; replace HB := hbs_ hb; have NB152_156 := nl_ hg BK152; have NB156_152 := nr_ hg BK152; replace BK152 := bkb_ BK152 hb; clear hb hbox hg; have hnb90 := NB156_152.out; have hnc90 := NB152_156.out; have hcz91 := blk_cell BK156.out; have hfz91 := blk_frozen BK156.out; have hcz92 := blk_cell BK152.out; have hfz92 := blk_frozen BK152.out) | (go_at_call 122; (with_reducible refine (impl_RoleOk.calls a0_4 a0_5 true _ A86.out).mono ?_); rintro e w93 ⟨rfl, hb⟩; replace BK152 := Aside0.mk (blk_below (g := gb152) (o := .cells #[.int .i64 a0_0, .int .i64 a0_1, .int .i64 a0_2, .int .i64 a0_3, .int .i64 a0_4, .int .i64 a0_5, .int .i64 a0_6, .int .i64 a0_7, .int .i64 a0_8, .int .i64 a0_9] 56 (0, 0)) (bk_ BK152) hb); replace BK156 := Aside0.mk (blk_below (g := gb156) (o := .cells #[.int .i64 0, .int .i64 0] 49 (0, 0)) (bk_ BK156) hb); replace HB := hbs_ hb; clear hb; have hcz94 := blk_cell BK152.out; have hfz94 := blk_frozen BK152.out) | (go_at_call 122; (with_reducible refine (impl_RoleOk.calls a0_6 a0_7 t162 _ A88.out).mono ?_); rintro e w95 ⟨rfl, hb⟩; replace BK152 := bkb_ BK152 hb; replace BK156 := bkb_ BK156 hb; replace HB := hbs_ hb; clear hb))
          go_ret
          exact ⟨eq_, bl_⟩
         ·replace c87 := Bool.eq_false_iff.mpr c87
          subst c87
          replace H := ite_f_ H
          obtain rfl := Option.some.inj H
          go_wp2_with (first | ((with_reducible refine gate_dst (N := 3) rfl ?_); refine box_event ?hg (N := 3) ?hd (cs := #[.int .i64 0, .int .i64 0]) (t := 49) ?hr ?_; (case hd => rfl); (case hg => rfl); (case hr => first | (go_simp; done) | (go_simp; rfl)); intro gb156 hg w96 hbox hb; have BK156 := Aside0.mk (hbox); have GW156 := gs_ hg; have GE156 := gs_ hg; replace HB := hbs_ hb; have NB152_156 := nl_ hg BK152; have NB156_152 := nr_ hg BK152; replace BK152 := bkb_ BK152 hb; clear hb hbox hg; have hnb97 := NB156_152.out; have hnc97 := NB152_156.out; have hcz98 := blk_cell BK156.out; have hfz98 := blk_frozen BK156.out; have hcz99 := blk_cell BK152.out; have hfz99 := blk_frozen BK152.out) | (go_at_call 122; (with_reducible refine (impl_RoleOk.calls a0_4 a0_5 false _ A86.out).mono ?_); rintro e w100 ⟨rfl, hb⟩; replace BK152 := Aside0.mk (blk_below (g := gb152) (o := .cells #[.int .i64 a0_0, .int .i64 a0_1, .int .i64 a0_2, .int .i64 a0_3, .int .i64 a0_4, .int .i64 a0_5, .int .i64 a0_6, .int .i64 a0_7, .int .i64 a0_8, .int .i64 a0_9] 56 (0, 0)) (bk_ BK152) hb); replace BK156 := Aside0.mk (blk_below (g := gb156) (o := .cells #[.int .i64 0, .int .i64 0] 49 (0, 0)) (bk_ BK156) hb); replace HB := hbs_ hb; clear hb))
          go_ret
          exact ⟨eq_, bl_⟩
        ·rw [if_neg c85] at H
         have c85b0 : (a0_3 == 0) = false := beq_eq_false_iff_ne.mpr c85
         have c85b1 : (a0_3 != 0) = true := bne_iff_ne.mpr c85
         obtain rfl := Option.some.inj H
         go_wp2_with (first | ((with_reducible refine gate_dst (N := 3) rfl ?_); refine box_event ?hg (N := 3) ?hd (cs := #[.int .i64 0, .int .i64 0]) (t := 49) ?hr ?_; (case hd => rfl); (case hg => rfl); (case hr => first | (go_simp; done) | (go_simp; rfl)); intro gb156 hg w101 hbox hb; have BK156 := Aside0.mk (hbox); have GW156 := gs_ hg; have GE156 := gs_ hg; replace HB := hbs_ hb; have NB152_156 := nl_ hg BK152; have NB156_152 := nr_ hg BK152; replace BK152 := bkb_ BK152 hb; clear hb hbox hg; have hnb102 := NB156_152.out; have hnc102 := NB152_156.out; have hcz103 := blk_cell BK156.out; have hfz103 := blk_frozen BK156.out; have hcz104 := blk_cell BK152.out; have hfz104 := blk_frozen BK152.out))
         go_ret
         exact ⟨eq_, bl_⟩
       ·rw [if_neg c84] at H
        have c84b0 : (a0_0 == 4) = false := beq_eq_false_iff_ne.mpr c84
        have c84b1 : (a0_0 != 4) = true := bne_iff_ne.mpr c84
        obtain rfl := Option.some.inj H
        go_wp2_with (first | ((with_reducible refine gate_dst (N := 3) rfl ?_); refine box_event ?hg (N := 3) ?hd (cs := #[.int .i64 0, .int .i64 0]) (t := 49) ?hr ?_; (case hd => rfl); (case hg => rfl); (case hr => first | (go_simp; done) | (go_simp; rfl)); intro gb156 hg w105 hbox hb; have BK156 := Aside0.mk (hbox); have GW156 := gs_ hg; have GE156 := gs_ hg; replace HB := hbs_ hb; have NB152_156 := nl_ hg BK152; have NB156_152 := nr_ hg BK152; replace BK152 := bkb_ BK152 hb; clear hb hbox hg; have hnb106 := NB156_152.out; have hnc106 := NB152_156.out; have hcz107 := blk_cell BK156.out; have hfz107 := blk_frozen BK156.out; have hcz108 := blk_cell BK152.out; have hfz108 := blk_frozen BK152.out))
        go_ret
        exact ⟨eq_, bl_⟩
end Go.Proofs.Ytjpjidgfcljpcaa.PA
