import Derived.Test.YtljhfomkakhflaaKEPAx17
-- printed by wip/tools
namespace Go.Proofs.Ytljhfomkakhflaa.PA
open Go.RowKit Go.Proofs.YtljhfomkakhflaaW.PrintWords Go.Proofs.YtljhfomkakhflaaW.PrintLast Go.Proofs.YtljhfomkakhflaaW.PrintMore
attribute [local go_sem] max2_int min2_int max_two min_two max_three min_three max_four min_four
set_option linter.unusedVariables false
set_option linter.unusedSimpArgs false
attribute [local go_sem high] eqA26 eqA28
def laws_big.f (l0 : List Int) : Option (Bool) := some (decide ((l0.length : Int) > 1048576))
set_option maxHeartbeats 8000000 in
set_option maxRecDepth 100000 in
theorem laws_big.calls (A0 : Option Addr) (c0 : Nat) (l0 : List Int) (r : Bool) (w : World) (hr0 : Kd.C (Kd.int .u8) w A0 l0.length l0) (hc0 : l0.length ≤ c0) (h : laws_big.f l0 = some r) :
  Calls Try.prog 5 #[.slice A0 l0.length c0] w fun e w' => e = .returned (.bool r) ∧ Drawn0 w w' := by
 have HR0 := aa_ hr0
 have HC0 := aa_ hc0
 clear hr0 hc0
 have H : (some (decide ((l0.length : Int) > 1048576))) = some r := h
 clear h
 obtain rfl := Option.some.inj H
 go_enter Try.func5, Try.ntmps5
 go_wp2
 go_ret
 exact ⟨by first | rfl | (simp; done) | (simp [*]; done), by repeat (first | exact Drawn0.refl _ | apply Drawn0.step)⟩
def spec_l01In.f (a0 : Int) (a1 : Int) (a2 : Int) : Option (Bool) := if a0 ≥ a1 then (some (decide (a0 ≤ a2))) else (some false)
set_option maxHeartbeats 8000000 in
set_option maxRecDepth 100000 in
theorem spec_l01In.calls (a0 : Int) (a1 : Int) (a2 : Int) (r : Bool) (w : World) (h : spec_l01In.f a0 a1 a2 = some r) :
  Calls Try.prog 31 #[.int .i64 a0, .int .i64 a1, .int .i64 a2] w fun e w' => e = .returned (.bool r) ∧ Drawn0 w w' := by
 have H : (if a0 ≥ a1 then (some (decide (a0 ≤ a2))) else (some false)) = some r := h
 clear h
 by_cases c4 : a0 ≥ a1
 ·rw [if_pos c4] at H
  have c4b0 : decide (a1 ≤ a0) = true := decide_eq_true c4
  clear c4
  obtain rfl := Option.some.inj H
  go_enter Try.func31, Try.ntmps31
  go_wp2
  go_ret
  exact ⟨by first | rfl | (simp; done) | (simp [*]; done), by repeat (first | exact Drawn0.refl _ | apply Drawn0.step)⟩
 ·rw [if_neg c4] at H
  have c4b0 : decide (a1 ≤ a0) = false := decide_eq_false c4
  clear c4
  obtain rfl := Option.some.inj H
  go_enter Try.func31, Try.ntmps31
  go_wp2
  go_ret
  exact ⟨by first | rfl | (simp; done) | (simp [*]; done), by repeat (first | exact Drawn0.refl _ | apply Drawn0.step)⟩
def spec_RoleOk.f (a0_0 : Int) (a0_1 : Int) : Option (Bool) := (spec_l01In.f a0_0 0 5).bind fun t102 => (if t102 = true then ((spec_l01In.f a0_1 0 3).bind fun t103 => (some t103)) else (some false))
set_option maxHeartbeats 8000000 in
set_option maxRecDepth 100000 in
theorem spec_RoleOk.calls (a0_0 : Int) (a0_1 : Int) (r : Bool) (w : World) (h : spec_RoleOk.f a0_0 a0_1 = some r) :
  Calls Try.prog 61 #[.agg #[.int .i64 a0_0, .int .i64 a0_1]] w fun e w' => e = .returned (.bool r) ∧ Below w.heap.size w w' := by
 have hu26 := Try.underlying26
 have HB := aa_ (Below.refl w.heap.size w)
 have H : ((spec_l01In.f a0_0 0 5).bind fun t102 => (if t102 = true then ((spec_l01In.f a0_1 0 3).bind fun t103 => (some t103)) else (some false))) = some r := h
 clear h
 obtain ⟨t102, A2, H⟩ := bindE_ H
 by_cases c3 : t102 = true
 ·subst c3
  replace H := ite_t_ H
  obtain ⟨t103, A4, H⟩ := bindE_ H
  obtain rfl := Option.some.inj H
  go_enter Try.func61, Try.ntmps61
  go_wp2_with (first | ((with_reducible refine gD_ 1 rfl ?_); refine bx_ (N := 1) (cs := #[.int .i64 a0_0, .int .i64 a0_1]) (t := 26) ?_; intro gb101 hg w5 hbox hb; have BK101 := aa_ (hbox); have GW101 := gs_ hg; have GE101 := gs_ hg; replace HB := hbs_ hb; clear hb hbox hg; obtain ⟨hcz6, hfz6⟩ := bcf_ BK101) | ((with_reducible refine gC_ 31 rfl ?_); refine goesC_ (some 5) Try.func31 #[.int .i64 a0_0, .int .i64 0, .int .i64 5] ?_; (with_reducible refine (spec_l01In.calls a0_0 0 5 true _ A2.out).mono ?_); rintro e w' ⟨rfl, ⟨nd, rfl⟩⟩; refine ⟨_, rfl, ?_⟩) | (go_at_call 31; (with_reducible refine (spec_l01In.calls a0_1 0 3 t103 _ A4.out).mono ?_); rintro e w' ⟨rfl, ⟨nd, rfl⟩⟩))
  go_ret
  exact ⟨eq_, bl_⟩
 ·replace c3 := Bool.eq_false_iff.mpr c3
  subst c3
  replace H := ite_f_ H
  obtain rfl := Option.some.inj H
  go_enter Try.func61, Try.ntmps61
  go_wp2_with (first | ((with_reducible refine gD_ 1 rfl ?_); refine bx_ (N := 1) (cs := #[.int .i64 a0_0, .int .i64 a0_1]) (t := 26) ?_; intro gb101 hg w7 hbox hb; have BK101 := aa_ (hbox); have GW101 := gs_ hg; have GE101 := gs_ hg; replace HB := hbs_ hb; clear hb hbox hg; obtain ⟨hcz8, hfz8⟩ := bcf_ BK101) | ((with_reducible refine gC_ 31 rfl ?_); refine goesC_ (some 5) Try.func31 #[.int .i64 a0_0, .int .i64 0, .int .i64 5] ?_; (with_reducible refine (spec_l01In.calls a0_0 0 5 false _ A2.out).mono ?_); rintro e w' ⟨rfl, ⟨nd, rfl⟩⟩; refine ⟨_, rfl, ?_⟩))
  go_ret
  exact ⟨eq_, bl_⟩
def spec_CredOk.j0 : Nat → Bool → Int → Int → Int → Int → Int → Int → Int → Int → Int → Int → Option (Bool)
 | 0, _, _, _, _, _, _, _, _, _, _, _ => none
 | k + 1, x19, x105000, x105001, x105002, x105003, x105004, x105005, x105006, x105007, x105008, x105009 => if x19 = true then (some false) else (if x105000 = 1 then ((spec_l01In.f x105003 0 5).bind fun t109 => (if t109 = true then (if (x105004 == 0 && (x105005 == 0)) = true then (some (x105006 == 0 && (x105007 == 0))) else (some false)) else (some false))) else (if x105000 = 2 then (if x105003 = 0 then ((spec_RoleOk.f x105004 x105005).bind fun t110 => (if t110 = true then (some (x105006 == 0 && (x105007 == 0))) else (some false))) else (some false)) else (if x105000 = 3 then (if x105003 = 0 then ((spec_RoleOk.f x105004 x105005).bind fun t111 => (if t111 = true then ((spec_RoleOk.f x105006 x105007).bind fun t112 => (if t112 = true then (some (x105006 == 0)) else (some false))) else (some false))) else (some false)) else (if x105000 = 4 then (if x105003 = 0 then ((spec_RoleOk.f x105004 x105005).bind fun t113 => (if t113 = true then ((spec_RoleOk.f x105006 x105007).bind fun t114 => (some t114)) else (some false))) else (some false)) else (some false)))))
def spec_CredOk.f (k : Nat) (a0_0 : Int) (a0_1 : Int) (a0_2 : Int) (a0_3 : Int) (a0_4 : Int) (a0_5 : Int) (a0_6 : Int) (a0_7 : Int) (a0_8 : Int) (a0_9 : Int) : Option (Bool) := (spec_RoleOk.f a0_1 a0_2).bind fun t105 => (if t105 = true then ((spec_l01In.f a0_8 1 9999).bind fun t106 => (if t106 = true then ((spec_l01In.f a0_9 0 99).bind fun t107 => (spec_CredOk.j0 k (!t107) a0_0 a0_1 a0_2 a0_3 a0_4 a0_5 a0_6 a0_7 a0_8 a0_9)) else (spec_CredOk.j0 k true a0_0 a0_1 a0_2 a0_3 a0_4 a0_5 a0_6 a0_7 a0_8 a0_9))) else (spec_CredOk.j0 k true a0_0 a0_1 a0_2 a0_3 a0_4 a0_5 a0_6 a0_7 a0_8 a0_9))
set_option maxHeartbeats 8000000 in
set_option maxRecDepth 100000 in
theorem spec_CredOk.calls (k : Nat) (a0_0 : Int) (a0_1 : Int) (a0_2 : Int) (a0_3 : Int) (a0_4 : Int) (a0_5 : Int) (a0_6 : Int) (a0_7 : Int) (a0_8 : Int) (a0_9 : Int) (r : Bool) (w : World) (h : spec_CredOk.f k a0_0 a0_1 a0_2 a0_3 a0_4 a0_5 a0_6 a0_7 a0_8 a0_9 = some r) :
  Calls Try.prog 47 #[.agg #[.int .i64 a0_0, .int .i64 a0_1, .int .i64 a0_2, .int .i64 a0_3, .int .i64 a0_4, .int .i64 a0_5, .int .i64 a0_6, .int .i64 a0_7, .int .i64 a0_8, .int .i64 a0_9]] w fun e w' => e = .returned (.bool r) ∧ Below w.heap.size w w' := by
 have hu35 := Try.underlying35
 have hu26 := Try.underlying26
 have HB := aa_ (Below.refl w.heap.size w)
 have H : ((spec_RoleOk.f a0_1 a0_2).bind fun t105 => (if t105 = true then ((spec_l01In.f a0_8 1 9999).bind fun t106 => (if t106 = true then ((spec_l01In.f a0_9 0 99).bind fun t107 => (spec_CredOk.j0 k (!t107) a0_0 a0_1 a0_2 a0_3 a0_4 a0_5 a0_6 a0_7 a0_8 a0_9)) else (spec_CredOk.j0 k true a0_0 a0_1 a0_2 a0_3 a0_4 a0_5 a0_6 a0_7 a0_8 a0_9))) else (spec_CredOk.j0 k true a0_0 a0_1 a0_2 a0_3 a0_4 a0_5 a0_6 a0_7 a0_8 a0_9))) = some r := h
 clear h
 have HC2 := aa_ H
 clear H
 go_enter Try.func47, Try.ntmps47
 go_upto_region 1 with (first | ((with_reducible refine gD_ 1 rfl ?_); refine bx_ (N := 1) (cs := #[.int .i64 a0_0, .int .i64 a0_1, .int .i64 a0_2, .int .i64 a0_3, .int .i64 a0_4, .int .i64 a0_5, .int .i64 a0_6, .int .i64 a0_7, .int .i64 a0_8, .int .i64 a0_9]) (t := 35) ?_; intro gb104 hg w3 hbox hb; have BK104 := aa_ (hbox); have GW104 := gs_ hg; have GE104 := gs_ hg; replace HB := hbs_ hb; clear hb hbox hg))
 (try simp only [Act.put, sb_, sz_, ss_])
 go_cut [19] (fun v19 wc => ∃ (kq : Nat) (x19_1 : Bool), v19 = .bool x19_1 ∧ Aside0 (spec_CredOk.j0 kq x19_1 a0_0 a0_1 a0_2 a0_3 a0_4 a0_5 a0_6 a0_7 a0_8 a0_9 = some r) ∧ Aside0 (kq ≤ k) ∧ Aside0 (wc.heap[gb104]? = some (.cells #[.int .i64 a0_0, .int .i64 a0_1, .int .i64 a0_2, .int .i64 a0_3, .int .i64 a0_4, .int .i64 a0_5, .int .i64 a0_6, .int .i64 a0_7, .int .i64 a0_8, .int .i64 a0_9] 35 (0, 0))) ∧ Aside0 (Below w.heap.size w wc))
 case first =>
  have H := HC2.out
  clear HC2
  obtain ⟨t105, A4, H⟩ := bindE_ H
  by_cases c5 : t105 = true
  ·subst c5
   replace H := ite_t_ H
   obtain ⟨t106, A6, H⟩ := bindE_ H
   by_cases c7 : t106 = true
   ·subst c7
    replace H := ite_t_ H
    obtain ⟨t107, A8, H⟩ := bindE_ H
    have H' := aa_ H
    clear H
    have hcz9 := blk_cell BK104.out
    have hfz9 := blk_frozen BK104.out
    go_wp2_with (first | ((with_reducible refine gC_ 61 rfl ?_); refine goesC_ (some 6) Try.func61 #[.agg #[.int .i64 a0_1, .int .i64 a0_2]] ?_; (with_reducible refine (spec_RoleOk.calls a0_1 a0_2 true _ A4.out).mono ?_); rintro e w10 ⟨rfl, hb⟩; refine ⟨_, rfl, ?_⟩; replace BK104 := bkb_ BK104 hb; replace HB := hbs_ hb; clear hb; obtain ⟨hcz11, hfz11⟩ := bcf_ BK104) | (go_at_call 31; (with_reducible refine (spec_l01In.calls a0_8 1 9999 true _ A6.out).mono ?_); rintro e w' ⟨rfl, ⟨nd, rfl⟩⟩) | (go_at_call 31; (with_reducible refine (spec_l01In.calls a0_9 0 99 t107 _ A8.out).mono ?_); rintro e w' ⟨rfl, ⟨nd, rfl⟩⟩))
    go_meet
    case rel => exact ⟨_, (!t107), rf_, H', ⟨by first | omega | exact Nat.le_refl _⟩, ⟨bk_ BK104⟩, ⟨bl_⟩⟩
   ·replace c7 := Bool.eq_false_iff.mpr c7
    subst c7
    replace H := ite_f_ H
    have H' := aa_ H
    clear H
    have hcz12 := blk_cell BK104.out
    have hfz12 := blk_frozen BK104.out
    go_wp2_with (first | ((with_reducible refine gC_ 61 rfl ?_); refine goesC_ (some 6) Try.func61 #[.agg #[.int .i64 a0_1, .int .i64 a0_2]] ?_; (with_reducible refine (spec_RoleOk.calls a0_1 a0_2 true _ A4.out).mono ?_); rintro e w13 ⟨rfl, hb⟩; refine ⟨_, rfl, ?_⟩; replace BK104 := bkb_ BK104 hb; replace HB := hbs_ hb; clear hb; obtain ⟨hcz14, hfz14⟩ := bcf_ BK104) | (go_at_call 31; (with_reducible refine (spec_l01In.calls a0_8 1 9999 false _ A6.out).mono ?_); rintro e w' ⟨rfl, ⟨nd, rfl⟩⟩))
    go_meet
    case rel => exact ⟨_, (true), rf_, H', ⟨by first | omega | exact Nat.le_refl _⟩, ⟨bk_ BK104⟩, ⟨bl_⟩⟩
  ·replace c5 := Bool.eq_false_iff.mpr c5
   subst c5
   replace H := ite_f_ H
   have H' := aa_ H
   clear H
   have hcz15 := blk_cell BK104.out
   have hfz15 := blk_frozen BK104.out
   go_wp2_with (first | ((with_reducible refine gC_ 61 rfl ?_); refine goesC_ (some 6) Try.func61 #[.agg #[.int .i64 a0_1, .int .i64 a0_2]] ?_; (with_reducible refine (spec_RoleOk.calls a0_1 a0_2 false _ A4.out).mono ?_); rintro e w16 ⟨rfl, hb⟩; refine ⟨_, rfl, ?_⟩; replace BK104 := bkb_ BK104 hb; replace HB := hbs_ hb; clear hb))
   go_meet
   case rel => exact ⟨_, (true), rf_, H', ⟨by first | omega | exact Nat.le_refl _⟩, ⟨bk_ BK104⟩, ⟨bl_⟩⟩
 case rest =>
  clear HC2
  try clear p2
  try clear hcz11
  try clear hcz12
  try clear hcz14
  try clear hcz15
  try clear hcz9
  try clear hfz11
  try clear hfz12
  try clear hfz14
  try clear hfz15
  try clear hfz9
  obtain ⟨kq, x19_1, rfl, HA, HJ1, BK104, HB⟩ := hcut
  cases kq with
  | zero => exact absurd HA.out (by simp [spec_CredOk.j0])
  | succ kj1 =>
   have H := HA.out
   clear HA
   simp only [spec_CredOk.j0] at H
   by_cases c17 : x19_1 = true
   ·subst c17
    replace H := ite_t_ H
    obtain rfl := Option.some.inj H
    go_wp2
    go_ret
    exact ⟨eq_, bl_⟩
   ·replace c17 := Bool.eq_false_iff.mpr c17
    subst c17
    replace H := ite_f_ H
    have HC18 := aa_ H
    clear H
    go_upto_if 23 with (first | ((with_reducible refine gD_ 3 rfl ?_); refine bx_ (N := 3) (cs := #[.int .i64 0, .int .i64 0]) (t := 26) ?_; intro gb108 hg w19 hbox hb; have BK108 := aa_ (hbox); have GW108 := gs_ hg; have GE108 := gs_ hg; replace HB := hbs_ hb; have NB104_108 := nl_ hg BK104; have NB108_104 := nr_ hg BK104; replace BK104 := bkb_ BK104 hb; clear hb hbox hg; have hnb20 := NB108_104.out; have hnc20 := NB104_108.out; obtain ⟨hcz21, hfz21⟩ := bcf_ BK108; obtain ⟨hcz22, hfz22⟩ := bcf_ BK104))
    have n0_ : Aside0 (((w19.setCell ⟨gb108, 0, none⟩ (.int .i64 0)).setCell ⟨gb108, 1, none⟩ (.int .i64 0)).heap[gb104]? = some (.cells #[.int .i64 a0_0, .int .i64 a0_1, .int .i64 a0_2, .int .i64 a0_3, .int .i64 a0_4, .int .i64 a0_5, .int .i64 a0_6, .int .i64 a0_7, .int .i64 a0_8, .int .i64 a0_9] 35 (0, 0))) := ⟨bk_ BK104⟩
    have n1_ : Aside0 (((w19.setCell ⟨gb108, 0, none⟩ (.int .i64 0)).setCell ⟨gb108, 1, none⟩ (.int .i64 0)).heap[gb108]? = some (.cells #[.int .i64 0, .int .i64 0] 26 (0, 0))) := ⟨bk_ BK108⟩
    have n2_ : Aside0 (Below w.heap.size w ((w19.setCell ⟨gb108, 0, none⟩ (.int .i64 0)).setCell ⟨gb108, 1, none⟩ (.int .i64 0))) := ⟨bl_⟩
    (try clear BK104)
    (try clear BK108)
    (try clear HB)
    generalize ((w19.setCell ⟨gb108, 0, none⟩ (.int .i64 0)).setCell ⟨gb108, 1, none⟩ (.int .i64 0)) = w23 at n0_ n1_ n2_ ⊢
    have BK104 := n0_
    have BK108 := n1_
    have HB := n2_
    clear n0_ n1_ n2_
    (try simp only [Act.put, sb_, sz_, ss_])
    have H := HC18.out
    clear HC18
    by_cases c24 : a0_0 = 1
    ·rw [if_pos c24] at H
     have c24b0 : (a0_0 == 1) = true := beq_iff_eq.mpr c24
     have c24b1 : (a0_0 != 1) = false := bne_eq_false_iff_eq.mpr c24
     clear c24
     (first | rw [c24b0] | (simp only [i64_w, i32_w]; rw [c24b0]) | skip)
     obtain ⟨t109, A25, H⟩ := bindE_ H
     by_cases c26 : t109 = true
     ·subst c26
      replace H := ite_t_ H
      by_cases c27 : (a0_4 == 0 && (a0_5 == 0)) = true
      ·rw [if_pos c27] at H
       have c27b0 : (a0_4 == 0 && (a0_5 == 0)) = true := c27
       (try (have c27b1 : decide (a0_4 = 0 && (a0_5 == 0)) = true := by simpa using c27))
       (try (have c27b2 : (a0_4 == 0 && (a0_5 == 0)) = true := by simpa using c27))
       clear c27
       obtain rfl := Option.some.inj H
       have hnb28 := NB104_108.out
       have hnc28 := NB108_104.out
       have hcz29 := blk_cell BK104.out
       have hfz29 := blk_frozen BK104.out
       go_wp2_with (first | ((with_reducible refine gC_ 31 rfl ?_); refine goesC_ (some 27) Try.func31 #[.int .i64 a0_3, .int .i64 0, .int .i64 5] ?_; (with_reducible refine (spec_l01In.calls a0_3 0 5 true _ A25.out).mono ?_); rintro e w' ⟨rfl, ⟨nd, rfl⟩⟩; refine ⟨_, rfl, ?_⟩; obtain ⟨hcz30, hfz30⟩ := bcf_ BK108))
       go_ret
       exact ⟨eq_, bl_⟩
      ·rw [if_neg c27] at H
       have c27b0 : (a0_4 == 0 && (a0_5 == 0)) = false := by simpa using c27
       (try (have c27b1 : decide (a0_4 = 0 && (a0_5 == 0)) = false := by simpa using c27))
       (try (have c27b2 : (a0_4 == 0 && (a0_5 == 0)) = false := by simpa using c27))
       (try (have c27b3 : ¬ (a0_4 = 0 && (a0_5 == 0)) := by simpa using c27))
       clear c27
       obtain rfl := Option.some.inj H
       have hnb31 := NB104_108.out
       have hnc31 := NB108_104.out
       have hcz32 := blk_cell BK104.out
       have hfz32 := blk_frozen BK104.out
       go_wp2_with (first | ((with_reducible refine gC_ 31 rfl ?_); refine goesC_ (some 27) Try.func31 #[.int .i64 a0_3, .int .i64 0, .int .i64 5] ?_; (with_reducible refine (spec_l01In.calls a0_3 0 5 true _ A25.out).mono ?_); rintro e w' ⟨rfl, ⟨nd, rfl⟩⟩; refine ⟨_, rfl, ?_⟩; obtain ⟨hcz33, hfz33⟩ := bcf_ BK108))
       go_ret
       exact ⟨eq_, bl_⟩
     ·replace c26 := Bool.eq_false_iff.mpr c26
      subst c26
      replace H := ite_f_ H
      obtain rfl := Option.some.inj H
      have hnb34 := NB104_108.out
      have hnc34 := NB108_104.out
      have hcz35 := blk_cell BK104.out
      have hfz35 := blk_frozen BK104.out
      go_wp2_with (first | ((with_reducible refine gC_ 31 rfl ?_); refine goesC_ (some 27) Try.func31 #[.int .i64 a0_3, .int .i64 0, .int .i64 5] ?_; (with_reducible refine (spec_l01In.calls a0_3 0 5 false _ A25.out).mono ?_); rintro e w' ⟨rfl, ⟨nd, rfl⟩⟩; refine ⟨_, rfl, ?_⟩))
      go_ret
      exact ⟨eq_, bl_⟩
    ·rw [if_neg c24] at H
     have c24b0 : (a0_0 == 1) = false := beq_eq_false_iff_ne.mpr c24
     have c24b1 : (a0_0 != 1) = true := bne_iff_ne.mpr c24
     (first | rw [c24b0] | (simp only [i64_w, i32_w]; rw [c24b0]) | skip)
     by_cases c36 : a0_0 = 2
     ·rw [if_pos c36] at H
      have c36b0 : (a0_0 == 2) = true := beq_iff_eq.mpr c36
      have c36b1 : (a0_0 != 2) = false := bne_eq_false_iff_eq.mpr c36
      clear c36
      by_cases c37 : a0_3 = 0
      ·rw [if_pos c37] at H
       have c37b0 : (a0_3 == 0) = true := beq_iff_eq.mpr c37
       have c37b1 : (a0_3 != 0) = false := bne_eq_false_iff_eq.mpr c37
       clear c37
       obtain ⟨t110, A38, H⟩ := bindE_ H
       by_cases c39 : t110 = true
       ·subst c39
        replace H := ite_t_ H
        obtain rfl := Option.some.inj H
        have hnb40 := NB104_108.out
        have hnc40 := NB108_104.out
        have hcz41 := blk_cell BK104.out
        have hfz41 := blk_frozen BK104.out
        go_wp2_with (first | (go_at_call 61; (with_reducible refine (spec_RoleOk.calls a0_4 a0_5 true _ A38.out).mono ?_); rintro e w42 ⟨rfl, hb⟩; replace BK104 := bkb_ BK104 hb; replace BK108 := bkb_ BK108 hb; replace HB := hbs_ hb; clear hb; obtain ⟨hcz43, hfz43⟩ := bcf_ BK104; obtain ⟨hcz44, hfz44⟩ := bcf_ BK108))
        go_ret
        exact ⟨eq_, bl_⟩
       ·replace c39 := Bool.eq_false_iff.mpr c39
        subst c39
        replace H := ite_f_ H
        obtain rfl := Option.some.inj H
        have hnb45 := NB104_108.out
        have hnc45 := NB108_104.out
        have hcz46 := blk_cell BK104.out
        have hfz46 := blk_frozen BK104.out
        go_wp2_with (first | (go_at_call 61; (with_reducible refine (spec_RoleOk.calls a0_4 a0_5 false _ A38.out).mono ?_); rintro e w47 ⟨rfl, hb⟩; replace BK104 := bkb_ BK104 hb; replace BK108 := bkb_ BK108 hb; replace HB := hbs_ hb; clear hb))
        go_ret
        exact ⟨eq_, bl_⟩
      ·rw [if_neg c37] at H
       have c37b0 : (a0_3 == 0) = false := beq_eq_false_iff_ne.mpr c37
       have c37b1 : (a0_3 != 0) = true := bne_iff_ne.mpr c37
       obtain rfl := Option.some.inj H
       have hnb48 := NB104_108.out
       have hnc48 := NB108_104.out
       have hcz49 := blk_cell BK104.out
       have hfz49 := blk_frozen BK104.out
       go_wp2
       go_ret
       exact ⟨eq_, bl_⟩
     ·rw [if_neg c36] at H
      have c36b0 : (a0_0 == 2) = false := beq_eq_false_iff_ne.mpr c36
      have c36b1 : (a0_0 != 2) = true := bne_iff_ne.mpr c36
      by_cases c50 : a0_0 = 3
      ·rw [if_pos c50] at H
       have c50b0 : (a0_0 == 3) = true := beq_iff_eq.mpr c50
       have c50b1 : (a0_0 != 3) = false := bne_eq_false_iff_eq.mpr c50
       clear c50
       by_cases c51 : a0_3 = 0
       ·rw [if_pos c51] at H
        have c51b0 : (a0_3 == 0) = true := beq_iff_eq.mpr c51
        have c51b1 : (a0_3 != 0) = false := bne_eq_false_iff_eq.mpr c51
        clear c51
        obtain ⟨t111, A52, H⟩ := bindE_ H
        by_cases c53 : t111 = true
        ·subst c53
         replace H := ite_t_ H
         obtain ⟨t112, A54, H⟩ := bindE_ H
         by_cases c55 : t112 = true
         ·subst c55
          replace H := ite_t_ H
          obtain rfl := Option.some.inj H
          have hnb56 := NB104_108.out
          have hnc56 := NB108_104.out
          have hcz57 := blk_cell BK104.out
          have hfz57 := blk_frozen BK104.out
          go_wp2_with (first | (go_at_call 61; (with_reducible refine (spec_RoleOk.calls a0_4 a0_5 true _ A52.out).mono ?_); rintro e w58 ⟨rfl, hb⟩; replace BK104 := bkb_ BK104 hb; replace BK108 := bkb_ BK108 hb; replace HB := hbs_ hb; clear hb; obtain ⟨hcz59, hfz59⟩ := bcf_ BK104) | (go_at_call 61; (with_reducible refine (spec_RoleOk.calls a0_6 a0_7 true _ A54.out).mono ?_); rintro e w60 ⟨rfl, hb⟩; replace BK104 := bkb_ BK104 hb; replace BK108 := bkb_ BK108 hb; replace HB := hbs_ hb; clear hb; obtain ⟨hcz61, hfz61⟩ := bcf_ BK104))
          go_ret
          exact ⟨eq_, bl_⟩
         ·replace c55 := Bool.eq_false_iff.mpr c55
          subst c55
          replace H := ite_f_ H
          obtain rfl := Option.some.inj H
          have hnb62 := NB104_108.out
          have hnc62 := NB108_104.out
          have hcz63 := blk_cell BK104.out
          have hfz63 := blk_frozen BK104.out
          go_wp2_with (first | (go_at_call 61; (with_reducible refine (spec_RoleOk.calls a0_4 a0_5 true _ A52.out).mono ?_); rintro e w64 ⟨rfl, hb⟩; replace BK104 := bkb_ BK104 hb; replace BK108 := bkb_ BK108 hb; replace HB := hbs_ hb; clear hb; obtain ⟨hcz65, hfz65⟩ := bcf_ BK104) | (go_at_call 61; (with_reducible refine (spec_RoleOk.calls a0_6 a0_7 false _ A54.out).mono ?_); rintro e w66 ⟨rfl, hb⟩; replace BK104 := bkb_ BK104 hb; replace BK108 := bkb_ BK108 hb; replace HB := hbs_ hb; clear hb))
          go_ret
          exact ⟨eq_, bl_⟩
        ·replace c53 := Bool.eq_false_iff.mpr c53
         subst c53
         replace H := ite_f_ H
         obtain rfl := Option.some.inj H
         have hnb67 := NB104_108.out
         have hnc67 := NB108_104.out
         have hcz68 := blk_cell BK104.out
         have hfz68 := blk_frozen BK104.out
         go_wp2_with (first | (go_at_call 61; (with_reducible refine (spec_RoleOk.calls a0_4 a0_5 false _ A52.out).mono ?_); rintro e w69 ⟨rfl, hb⟩; replace BK104 := bkb_ BK104 hb; replace BK108 := bkb_ BK108 hb; replace HB := hbs_ hb; clear hb))
         go_ret
         exact ⟨eq_, bl_⟩
       ·rw [if_neg c51] at H
        have c51b0 : (a0_3 == 0) = false := beq_eq_false_iff_ne.mpr c51
        have c51b1 : (a0_3 != 0) = true := bne_iff_ne.mpr c51
        obtain rfl := Option.some.inj H
        have hnb70 := NB104_108.out
        have hnc70 := NB108_104.out
        have hcz71 := blk_cell BK104.out
        have hfz71 := blk_frozen BK104.out
        go_wp2
        go_ret
        exact ⟨eq_, bl_⟩
      ·rw [if_neg c50] at H
       have c50b0 : (a0_0 == 3) = false := beq_eq_false_iff_ne.mpr c50
       have c50b1 : (a0_0 != 3) = true := bne_iff_ne.mpr c50
       by_cases c72 : a0_0 = 4
       ·rw [if_pos c72] at H
        have c72b0 : (a0_0 == 4) = true := beq_iff_eq.mpr c72
        have c72b1 : (a0_0 != 4) = false := bne_eq_false_iff_eq.mpr c72
        clear c72
        by_cases c73 : a0_3 = 0
        ·rw [if_pos c73] at H
         have c73b0 : (a0_3 == 0) = true := beq_iff_eq.mpr c73
         have c73b1 : (a0_3 != 0) = false := bne_eq_false_iff_eq.mpr c73
         clear c73
         obtain ⟨t113, A74, H⟩ := bindE_ H
         by_cases c75 : t113 = true
         ·subst c75
          replace H := ite_t_ H
          obtain ⟨t114, A76, H⟩ := bindE_ H
          obtain rfl := Option.some.inj H
          have hnb77 := NB104_108.out
          have hnc77 := NB108_104.out
          have hcz78 := blk_cell BK104.out
          have hfz78 := blk_frozen BK104.out
          go_wp2_with (first | (go_at_call 61; (with_reducible refine (spec_RoleOk.calls a0_4 a0_5 true _ A74.out).mono ?_); rintro e w79 ⟨rfl, hb⟩; replace BK104 := bkb_ BK104 hb; replace BK108 := bkb_ BK108 hb; replace HB := hbs_ hb; clear hb; obtain ⟨hcz80, hfz80⟩ := bcf_ BK104) | (go_at_call 61; (with_reducible refine (spec_RoleOk.calls a0_6 a0_7 t114 _ A76.out).mono ?_); rintro e w81 ⟨rfl, hb⟩; replace BK104 := bkb_ BK104 hb; replace BK108 := bkb_ BK108 hb; replace HB := hbs_ hb; clear hb))
          go_ret
          exact ⟨eq_, bl_⟩
         ·replace c75 := Bool.eq_false_iff.mpr c75
          subst c75
          replace H := ite_f_ H
          obtain rfl := Option.some.inj H
          have hnb82 := NB104_108.out
          have hnc82 := NB108_104.out
          have hcz83 := blk_cell BK104.out
          have hfz83 := blk_frozen BK104.out
          go_wp2_with (first | (go_at_call 61; (with_reducible refine (spec_RoleOk.calls a0_4 a0_5 false _ A74.out).mono ?_); rintro e w84 ⟨rfl, hb⟩; replace BK104 := bkb_ BK104 hb; replace BK108 := bkb_ BK108 hb; replace HB := hbs_ hb; clear hb))
          go_ret
          exact ⟨eq_, bl_⟩
        ·rw [if_neg c73] at H
         have c73b0 : (a0_3 == 0) = false := beq_eq_false_iff_ne.mpr c73
         have c73b1 : (a0_3 != 0) = true := bne_iff_ne.mpr c73
         obtain rfl := Option.some.inj H
         have hnb85 := NB104_108.out
         have hnc85 := NB108_104.out
         have hcz86 := blk_cell BK104.out
         have hfz86 := blk_frozen BK104.out
         go_wp2
         go_ret
         exact ⟨eq_, bl_⟩
       ·rw [if_neg c72] at H
        have c72b0 : (a0_0 == 4) = false := beq_eq_false_iff_ne.mpr c72
        have c72b1 : (a0_0 != 4) = true := bne_iff_ne.mpr c72
        obtain rfl := Option.some.inj H
        go_wp2
        go_ret
        exact ⟨eq_, bl_⟩
def spec_l06Has.l0 : Nat → List (S28) → Int → Int → Int → Int → Option (Bool)
 | 0, _, _, _, _, _ => none
 | k + 1, x0, x5, x116000, x116001, x116002 => if x5 < (x0.length : Int) then (if 0 ≤ x5 then (if ((((rd_T28 x0 x5).f0.f0) == x116000 && (((rd_T28 x0 x5).f0.f1) == x116001)) && (((rd_T28 x0 x5).f1) == x116002)) = true then (some true) else (spec_l06Has.l0 k x0 (wrap64 (x5 + 1)) x116000 x116001 x116002)) else (none)) else (some false)
def spec_l06Has.f (k : Nat) (l0 : List (S28)) (a1_0 : Int) (a1_1 : Int) (a1_2 : Int) : Option (Bool) := spec_l06Has.l0 k l0 0 a1_0 a1_1 a1_2
set_option maxHeartbeats 8000000 in
set_option maxRecDepth 100000 in
theorem spec_l06Has.calls (k : Nat) (A0 : Option Addr) (c0 : Nat) (l0 : List (S28)) (a1_0 : Int) (a1_1 : Int) (a1_2 : Int) (r : Bool) (w : World) (hr0 : Kd.C k28 w A0 l0.length l0) (hc0 : l0.length ≤ c0) (h : spec_l06Has.f k l0 a1_0 a1_1 a1_2 = some r) :
  Calls Try.prog 51 #[.slice A0 l0.length c0, .agg #[.int .i64 a1_0, .int .i64 a1_1, .int .i64 a1_2]] w fun e w' => e = .returned (.bool r) ∧ Below w.heap.size w w' := by
 have hu28 := Try.underlying28
 have HR0 := aa_ hr0
 have HC0 := aa_ hc0
 clear hr0 hc0
 have HB := aa_ (Below.refl w.heap.size w)
 have H : (spec_l06Has.l0 k l0 0 a1_0 a1_1 a1_2) = some r := h
 clear h
 have H' := aa_ H
 clear H
 go_enter Try.func51, Try.ntmps51
 go_wp2_with (first | ((with_reducible refine gD_ 3 rfl ?_); refine bx_ (N := 3) (cs := #[.int .i64 a1_0, .int .i64 a1_1, .int .i64 a1_2]) (t := 28) ?_; intro gb115 hg w3 hbox hb; have BK115 := aa_ (hbox); have GW115 := gs_ hg; have GE115 := gs_ hg; replace HB := hbs_ hb; clear hb hbox hg))
 repeat (go_quiet (first | ((with_reducible refine gD_ 3 rfl ?_); refine bx_ (N := 3) (cs := #[.int .i64 a1_0, .int .i64 a1_1, .int .i64 a1_2]) (t := 28) ?_; intro gb115 hg w3 hbox hb; have BK115 := aa_ (hbox); have GW115 := gs_ hg; have GE115 := gs_ hg; replace HB := hbs_ hb; clear hb hbox hg)); try go_wp2_with (first | ((with_reducible refine gD_ 3 rfl ?_); refine bx_ (N := 3) (cs := #[.int .i64 a1_0, .int .i64 a1_1, .int .i64 a1_2]) (t := 28) ?_; intro gb115 hg w3 hbox hb; have BK115 := aa_ (hbox); have GW115 := gs_ hg; have GE115 := gs_ hg; replace HB := hbs_ hb; clear hb hbox hg)))
 go_loopg [5] k (fun kq v5 w' => ∃ (x5_1 : Int), v5 = .int .i64 x5_1 ∧ Aside0 (spec_l06Has.l0 kq l0 x5_1 a1_0 a1_1 a1_2 = some r) ∧ Aside0 (kq ≤ k) ∧ Aside0 (w'.heap[gb115]? = some (.cells #[.int .i64 a1_0, .int .i64 a1_1, .int .i64 a1_2] 28 (0, 0))) ∧ Aside0 (Below w.heap.size w w'))
 case atStart => exact ⟨(0), rf_, H', ⟨Nat.le_refl _⟩, ⟨bk_ BK115⟩, ⟨bl_⟩⟩
 case round =>
  clear H'
  try clear p2
  obtain ⟨x5_1, rfl, HA, HK1, BK115, HB⟩ := hrel
  cases gk with
  | zero => exact absurd HA.out (by simp [spec_l06Has.l0])
  | succ k1 =>
   have H := HA.out
   clear HA
   simp only [spec_l06Has.l0] at H
   by_cases c4 : x5_1 < (l0.length : Int)
   ·rw [if_pos c4] at H
    have c4b0 : decide (x5_1 < (l0.length : Int)) = true := decide_eq_true c4
    clear c4
    obtain ⟨c5b0, H⟩ := ifd_ H
    have HC6 := aa_ H
    clear H
    have p116 : 0 ≤ (x5_1 : Int) := od_
    have q116 : x5_1 < (l0.length : Int) := od_
    obtain ⟨ad116, e116, hx116_0, hx116_1, hx116_2⟩ := at_T28 (Kd.C_below HR0.out HB.out) x5_1 p116 q116
    cases e116
    replace p116 := eq_true p116
    replace q116 := eq_true q116
    have hcz7 := blk_cell BK115.out
    have hfz7 := blk_frozen BK115.out
    go_upto_if 17 with (fail)
    repeat (go_quiet (fail); go_upto_if 17 with (fail))
    have H := HC6.out
    clear HC6
    by_cases c8 : ((((rd_T28 l0 x5_1).f0.f0) == a1_0 && (((rd_T28 l0 x5_1).f0.f1) == a1_1)) && (((rd_T28 l0 x5_1).f1) == a1_2)) = true
    ·rw [if_pos c8] at H
     have c8b0 : ((((rd_T28 l0 x5_1).f0.f0) == a1_0 && (((rd_T28 l0 x5_1).f0.f1) == a1_1)) && (((rd_T28 l0 x5_1).f1) == a1_2)) = true := c8
     clear c8
     (first | rw [c8b0] | (simp only [i64_w, i32_w]; rw [c8b0]) | skip)
     obtain rfl := Option.some.inj H
     go_wp2
     repeat (go_quiet (fail); try go_wp2)
     go_ret
     exact ⟨eq_, bl_⟩
    ·rw [if_neg c8] at H
     have c8b0 : ((((rd_T28 l0 x5_1).f0.f0) == a1_0 && (((rd_T28 l0 x5_1).f0.f1) == a1_1)) && (((rd_T28 l0 x5_1).f1) == a1_2)) = false := by simpa using c8
     clear c8
     (first | rw [c8b0] | (simp only [i64_w, i32_w]; rw [c8b0]) | skip)
     have H' := aa_ H
     clear H
     go_wp2
     repeat (go_quiet (fail); try go_wp2)
     go_roundg k1
     case measure => have := HK1.out; omega
     case rel => exact ⟨(wrap64 (x5_1 + 1)), rf_, H', ⟨by have := HK1.out; omega⟩, ⟨bk_ BK115⟩, ⟨bl_⟩⟩
   ·rw [if_neg c4] at H
    have c4b0 : decide (x5_1 < (l0.length : Int)) = false := decide_eq_false c4
    clear c4
    obtain rfl := Option.some.inj H
    go_wp2
    repeat (go_quiet (fail); try go_wp2)
    go_ret
    exact ⟨eq_, bl_⟩
def spec_l06Put.f (k : Nat) (l0 : List (S28)) (a1_0 : Int) (a1_1 : Int) (a1_2 : Int) : Option ((List (S28))) := (spec_l06Has.f k l0 a1_0 a1_1 a1_2).bind fun t118 => (if t118 = true then (some l0) else (if l0.length < 5864062014805 then (some (l0 ++ [(⟨(⟨a1_0, a1_1⟩ : S26), a1_2⟩ : S28)])) else (none)))
set_option maxHeartbeats 8000000 in
set_option maxRecDepth 100000 in
theorem spec_l06Put.calls (k : Nat) (P0_ : Nat → Prop) (u9000_ : Value) (l0 : List (S28)) (a1_0 : Int) (a1_1 : Int) (a1_2 : Int) (r : List (S28)) (w0 w : World) (hB : Below w0.heap.size w0 w) (ho0 : Kd.R k28 28 w w0.heap.size P0_ u9000_ l0) (h : spec_l06Put.f k l0 a1_0 a1_1 a1_2 = some r) :
  Calls Try.prog 50 #[u9000_, .agg #[.int .i64 a1_0, .int .i64 a1_1, .int .i64 a1_2]] w fun e w' => ∃ v0_ : Value, e = .returned (v0_) ∧ Kd.R k28 28 w' w0.heap.size (fun k_ => (P0_ k_ ∨ w.heap.size ≤ k_)) v0_ r ∧ Below w0.heap.size w0 w' ∧ Kept w w' (fun k_ => P0_ k_) := by
 have hu28 := Try.underlying28
 have HO0 := aa_ (show Kd.R k28 28 w w0.heap.size (fun k_ => (P0_ k_ ∨ w.heap.size ≤ k_)) u9000_ l0 from Kd.R_mono ho0 (fun k_ hk => (.inl hk)))
 have HK := aa_ (Kept.refl w (fun k_ => P0_ k_))
 have HW0 := aa_ hB.size
 have HB := aa_ hB
 clear hB
 have H : ((spec_l06Has.f k l0 a1_0 a1_1 a1_2).bind fun t118 => (if t118 = true then (some l0) else (if l0.length < 5864062014805 then (some (l0 ++ [(⟨(⟨a1_0, a1_1⟩ : S26), a1_2⟩ : S28)])) else (none)))) = some r := h
 clear h
 obtain ⟨t118, A3, H⟩ := bindE_ H
 have HC4 := aa_ H
 clear H
 go_enter Try.func50, Try.ntmps50
 go_upto_if 7 with (first | ((with_reducible refine gD_ 3 rfl ?_); refine bx_ (N := 3) (cs := #[.int .i64 a1_0, .int .i64 a1_1, .int .i64 a1_2]) (t := 28) ?_; intro gb117 hg w5 hbox hb; replace HO0 := aa_ (Kd.R_below (Kd.R_elderB (rr_ HO0) gb117 (Nat.le_of_eq hg.symm)) hb); have BK117 := aa_ (hbox); have GW117 := aa_ ((by rw [hg]; exact (by first | exact HK.out.1 | exact (show Kept w _ (fun k_ => P0_ k_) from by repeat (first | (with_reducible first | exact HK.out | apply Kept.alloc | apply Kept.drewN | apply Kept.drew) | exact HK.out)).1) : w.heap.size ≤ gb117)); replace HK := aa_ (Kept.below (S := (fun k_ => P0_ k_)) (by repeat (first | (with_reducible first | exact HK.out | apply Kept.alloc | apply Kept.drewN | apply Kept.drew) | exact HK.out)) hb); have GE117 := aa_ ((by rw [hg]; exact bls_ : w0.heap.size ≤ gb117)); replace HB := hbs_ hb; clear hb hbox hg; obtain ⟨hcz6, hfz6⟩ := bcf_ BK117; obtain ⟨Ao7, co7, eo7⟩ := Kd.R_slice HO0.out; subst eo7) | ((with_reducible refine gC_ 51 rfl ?_); refine goesC_ (some 7) Try.func51 #[.slice Ao7 l0.length co7, .agg #[.int .i64 a1_0, .int .i64 a1_1, .int .i64 a1_2]] ?_; (with_reducible refine (spec_l06Has.calls k _ _ l0 a1_0 a1_1 a1_2 t118 _ ?side1 ?side2 A3.out).mono ?_); (case side1 => repeat (first | exact (Kd.R_reads' HO0.out).2.2 | (with_reducible refine Kd.C_alloc ?_ _) | (with_reducible refine Kd.C_drewN ?_ _) | (with_reducible refine Kd.C_drew ?_))); (case side2 => exact (Kd.R_reads' HO0.out).2.1); rintro e w8 ⟨rfl, hb⟩; refine ⟨_, rfl, ?_⟩; replace HO0 := hob_ HO0 hb; replace BK117 := bkb_ BK117 hb; replace HK := aa_ (Kept.below (S := (fun k_ => P0_ k_)) (by repeat (first | (with_reducible first | exact HK.out | apply Kept.alloc | apply Kept.drewN | apply Kept.drew | refine Kept.setCell ?_ (.inr GW117.out) _) | exact HK.out)) hb); replace HB := hbs_ hb; clear hb))
 (try simp only [Act.put, sb_, sz_, ss_])
 have H := HC4.out
 clear HC4
 by_cases c9 : t118 = true
 ·subst c9
  replace H := ite_t_ H
  obtain rfl := Option.some.inj H
  go_wp2
  go_ret
  exact ⟨_, eq_, by (with_reducible repeat (first | apply Kd.R_alloc | apply Kd.R_drewN | apply Kd.R_drew)); exact Kd.R_mono HO0.out (fun _ hk => hk.1), bl_, by repeat (first | (with_reducible first | exact HK.out | apply Kept.alloc | apply Kept.drewN | apply Kept.drew | refine Kept.setCell ?_ (.inr GW117.out) _) | exact HK.out)⟩
 ·replace c9 := Bool.eq_false_iff.mpr c9
  subst c9
  replace H := ite_f_ H
  obtain ⟨c10, H⟩ := ifn_ H
  have LMc10 := aa_ c10
  clear c10
  obtain ⟨y119, hy119⟩ : ∃ y_ : List (S28), y_ = (l0 ++ [(⟨(⟨a1_0, a1_1⟩ : S26), a1_2⟩ : S28)]) := ⟨_, rfl⟩
  replace H : (some y119) = some r := rh_ hy119 H
  have Ny119 := aa_ hy119
  clear hy119
  obtain rfl := Option.some.inj H
  have hcz11 := blk_cell BK117.out
  have hfz11 := blk_frozen BK117.out
  go_wp2_with (first | ((with_reducible refine gate_builtin (b := .append) (xs := #[.tmp 9, .tmp 11]) rfl ?_); at_builtin; refine Kd.R_append k28 (w0 := w0) w0.heap.size rfl (.tmp 9) (.tmp 11) 44 28 (.agg #[(.int .i64 0), (.int .i64 0), (.int .i64 0)]) 24 rfl Try.underlying44 info28 rfl (by decide) (by omega) (.slice Ao7 l0.length co7) l0 (⟨(⟨a1_0, a1_1⟩ : S26), a1_2⟩ : S28) [.int .i64 a1_0, .int .i64 a1_1, .int .i64 a1_2] (fun k_ => (P0_ k_ ∨ w.heap.size ≤ k_) ∧ k_ ≠ gb117) (fun _ => False) rfl rfl ?aP (fun _ hk => hk.elim) ?aF ?aO ?aB ?aS ?aL ?_; (case aP => exact k28_mkM _ _ _ (⟨(⟨a1_0, a1_1⟩ : S26), a1_2⟩ : S28)); (case aB => exact bl_); (case aF => exact (fun k_ hk => ⟨(.inr (Nat.le_trans (by first | exact HK.out.1 | exact (show Kept w _ (fun k_ => P0_ k_) from by repeat (first | (with_reducible first | exact HK.out | apply Kept.alloc | apply Kept.drewN | apply Kept.drew | refine Kept.setCell ?_ (.inr GW117.out) _) | exact HK.out)).1) hk)), Kd.freshB (g := gb117) (o := .cells #[.int .i64 a1_0, .int .i64 a1_1, .int .i64 a1_2] 28 (0, 0)) (bk_ BK117) k_ hk⟩)); (case aO => exact (rr_ HO0)); (case aS => exact bls_); (case aL => have := LMc10.out; omega); intro v120 w12 ho hb hg hat; rw [← Ny119.out] at ho; replace BK117 := aa_ (blk_grown (g := gb117) (o := .cells #[.int .i64 a1_0, .int .i64 a1_1, .int .i64 a1_2] 28 (0, 0)) (bk_ BK117) hg (Kd.R_away HO0.out (fun _ hk => hk.2))); replace HB := aa_ (hb); replace HK := aa_ (Kept.of_grown (S := (fun k_ => P0_ k_)) hg (by repeat (first | (with_reducible first | exact HK.out | apply Kept.alloc | apply Kept.drewN | apply Kept.drew | refine Kept.setCell ?_ (.inr GW117.out) _) | exact HK.out)) (fun k_ e_ => (HO0.out.1 k_ e_).1)); have HO121 := aa_ (ho); clear HO0; clear ho hb hg hat))
  go_ret
  exact ⟨_, eq_, by (with_reducible repeat (first | apply Kd.R_alloc | apply Kd.R_drewN | apply Kd.R_drew)); exact Kd.R_mono HO121.out (fun _ hk => hk.1), bl_, by repeat (first | (with_reducible first | exact HK.out | apply Kept.alloc | apply Kept.drewN | apply Kept.drew | refine Kept.setCell ?_ (.inr GW117.out) _) | exact HK.out)⟩
end Go.Proofs.Ytljhfomkakhflaa.PA
