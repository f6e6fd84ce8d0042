import Derived.Test.YtppdmcimddhbaaaKCPGx8
-- printed by wip/tools
namespace Go.Proofs.Ytppdmcimddhbaaa.PG
open Go.RowKit Go.Proofs.YtppdmcimddhbaaaW.PrintWords Go.Proofs.YtppdmcimddhbaaaW.PrintLast Go.Proofs.YtppdmcimddhbaaaW.PrintMore
attribute [local go_sem] max2_int min2_int max_two min_two max_three min_three max_four min_four
set_option linter.unusedVariables false
set_option linter.unusedSimpArgs false
attribute [local go_sem high] eqA27 eqA29
def spec_CostOf.f (k : Nat) (l0 : List (S46)) (a1_0 : Int) (a1_1 : Int) (a2 : Int) : Option (Int) := (spec_FactsOf.f k l0).bind fun t255 => ((spec_l19At.f k t255 a1_0 a1_1 a2).bind fun t258 => (if t258 < 0 then (some 0) else ((spec_l19Sizes.f k l0 t255).bind fun t259 => (if 0 ≤ t258 then (if t258 < (t259.length : Int) then (some (rd t259 t258)) else (none)) else (none)))))
set_option maxHeartbeats 8000000 in
set_option maxRecDepth 100000 in
theorem spec_CostOf.calls (k : Nat) (A0 : Option Addr) (c0 : Nat) (l0 : List (S46)) (a1_0 : Int) (a1_1 : Int) (a2 : Int) (r : Int) (w : World) (hr0 : Kd.C k46 w A0 l0.length l0) (hc0 : l0.length ≤ c0) (h : spec_CostOf.f k l0 a1_0 a1_1 a2 = some r) :
  Calls Try.prog 68 #[.slice A0 l0.length c0, .agg #[.int .i64 a1_0, .int .i64 a1_1], .int .i64 a2] w fun e w' => e = .returned (.int .i64 r) ∧ Below w.heap.size w w' := by
 have hu27 := Try.underlying27
 have hu29 := Try.underlying29
 have HR0 := Aside0.mk hr0
 have HC0 := Aside0.mk hc0
 clear hr0 hc0
 have HB := Aside0.mk (Below.refl w.heap.size w)
 have H : ((spec_FactsOf.f k l0).bind fun t255 => ((spec_l19At.f k t255 a1_0 a1_1 a2).bind fun t258 => (if t258 < 0 then (some 0) else ((spec_l19Sizes.f k l0 t255).bind fun t259 => (if 0 ≤ t258 then (if t258 < (t259.length : Int) then (some (rd t259 t258)) else (none)) else (none)))))) = some r := h
 clear h
 obtain ⟨t255, A4, H⟩ := bindE_ H
 obtain ⟨t258, A5, H⟩ := bindE_ H
 by_cases c6 : t258 < 0
 ·rw [if_pos c6] at H
  have c6b0 : decide (t258 < 0) = true := decide_eq_true c6
  clear c6
  obtain rfl := Option.some.inj H
  go_enter Try.func68, Try.ntmps68
  go_wp2_with (first | ((with_reducible refine gate_dst (N := 4) rfl ?_); refine box_event ?hg (N := 4) ?hd (cs := #[.int .i64 a1_0, .int .i64 a1_1]) (t := 27) ?hr ?_; (case hd => rfl); (case hg => rfl); (case hr => first | (go_simp; done) | (go_simp; rfl)); intro gb254 hg w7 hbox hb; have BK254 := Aside0.mk (hbox); have GW254 := gs_ hg; have GE254 := gs_ hg; replace HB := hbs_ hb; clear hb hbox hg) | ((with_reducible refine gate_callee (f := 73) rfl ?_); refine goesC_ (some 10) Try.func73 #[.slice A0 l0.length c0] ?_; (with_reducible refine (spec_FactsOf.calls k _ _ l0 t255 _ ?side1 ?side2 A4.out).mono ?_); (case side1 => repeat (first | exact (Kd.C_below HR0.out HB.out) | (with_reducible refine Kd.C_alloc ?_ _) | (with_reducible refine Kd.C_drewN ?_ _) | (with_reducible refine Kd.C_drew ?_))); (case side2 => exact HC0.out); rintro e w8 ⟨v256, rfl, ho0, hb⟩; refine ⟨_, rfl, ?_⟩; have HO257 := Aside0.mk (Kd.R_lower ho0 bls_); replace BK254 := bkb_ BK254 hb; replace HB := hbs_ hb; (try clear hb); (try clear hb2); (try clear hk); (try clear hi); (try clear ho0); have hcz9 := blk_cell BK254.out; have hfz9 := blk_frozen BK254.out; obtain ⟨Ao10, co10, eo10⟩ := Kd.R_slice HO257.out; subst eo10) | ((with_reducible refine gate_callee (f := 117) rfl ?_); refine goesC_ (some 15) Try.func117 #[.slice Ao10 t255.length co10, .agg #[.int .i64 a1_0, .int .i64 a1_1, .int .i64 a2]] ?_; (with_reducible refine (spec_l19At.calls k _ _ t255 a1_0 a1_1 a2 t258 _ ?side1 ?side2 A5.out).mono ?_); (case side1 => repeat (first | exact (Kd.R_reads' HO257.out).2.2 | (with_reducible refine Kd.C_alloc ?_ _) | (with_reducible refine Kd.C_drewN ?_ _) | (with_reducible refine Kd.C_drew ?_))); (case side2 => exact (Kd.R_reads' HO257.out).2.1); rintro e w11 ⟨rfl, hb⟩; refine ⟨_, rfl, ?_⟩; replace HO257 := hob_ HO257 hb; replace BK254 := bkb_ BK254 hb; replace HB := hbs_ hb; clear hb))
  go_ret
  exact ⟨eq_, bl_⟩
 ·rw [if_neg c6] at H
  have c6b0 : decide (t258 < 0) = false := decide_eq_false c6
  clear c6
  obtain ⟨t259, A12, H⟩ := bindE_ H
  obtain ⟨c13b0, H⟩ := ifd_ H
  obtain ⟨c14b0, H⟩ := ifd_ H
  obtain rfl := Option.some.inj H
  go_enter Try.func68, Try.ntmps68
  go_wp2_with (first | ((with_reducible refine gate_dst (N := 4) rfl ?_); refine box_event ?hg (N := 4) ?hd (cs := #[.int .i64 a1_0, .int .i64 a1_1]) (t := 27) ?hr ?_; (case hd => rfl); (case hg => rfl); (case hr => first | (go_simp; done) | (go_simp; rfl)); intro gb254 hg w15 hbox hb; have BK254 := Aside0.mk (hbox); have GW254 := gs_ hg; have GE254 := gs_ hg; replace HB := hbs_ hb; clear hb hbox hg) | ((with_reducible refine gate_callee (f := 73) rfl ?_); refine goesC_ (some 10) Try.func73 #[.slice A0 l0.length c0] ?_; (with_reducible refine (spec_FactsOf.calls k _ _ l0 t255 _ ?side1 ?side2 A4.out).mono ?_); (case side1 => repeat (first | exact (Kd.C_below HR0.out HB.out) | (with_reducible refine Kd.C_alloc ?_ _) | (with_reducible refine Kd.C_drewN ?_ _) | (with_reducible refine Kd.C_drew ?_))); (case side2 => exact HC0.out); rintro e w16 ⟨v256, rfl, ho0, hb⟩; refine ⟨_, rfl, ?_⟩; have HO257 := Aside0.mk (Kd.R_lower ho0 bls_); replace BK254 := bkb_ BK254 hb; replace HB := hbs_ hb; (try clear hb); (try clear hb2); (try clear hk); (try clear hi); (try clear ho0); have hcz17 := blk_cell BK254.out; have hfz17 := blk_frozen BK254.out; obtain ⟨Ao18, co18, eo18⟩ := Kd.R_slice HO257.out; subst eo18) | ((with_reducible refine gate_callee (f := 117) rfl ?_); refine goesC_ (some 15) Try.func117 #[.slice Ao18 t255.length co18, .agg #[.int .i64 a1_0, .int .i64 a1_1, .int .i64 a2]] ?_; (with_reducible refine (spec_l19At.calls k _ _ t255 a1_0 a1_1 a2 t258 _ ?side1 ?side2 A5.out).mono ?_); (case side1 => repeat (first | exact (Kd.R_reads' HO257.out).2.2 | (with_reducible refine Kd.C_alloc ?_ _) | (with_reducible refine Kd.C_drewN ?_ _) | (with_reducible refine Kd.C_drew ?_))); (case side2 => exact (Kd.R_reads' HO257.out).2.1); rintro e w19 ⟨rfl, hb⟩; refine ⟨_, rfl, ?_⟩; replace HO257 := hob_ HO257 hb; replace BK254 := bkb_ BK254 hb; replace HB := hbs_ hb; clear hb) | ((with_reducible refine gate_callee (f := 118) rfl ?_); refine goesC_ (some 20) Try.func118 #[.slice A0 l0.length c0, .slice Ao18 t255.length co18] ?_; (with_reducible refine (spec_l19Sizes.calls k _ _ l0 _ _ t255 t259 _ ?side1 ?side2 ?side3 ?side4 A12.out).mono ?_); (case side1 => repeat (first | exact (Kd.C_below HR0.out HB.out) | (with_reducible refine Kd.C_alloc ?_ _) | (with_reducible refine Kd.C_drewN ?_ _) | (with_reducible refine Kd.C_drew ?_))); (case side2 => exact HC0.out); (case side3 => repeat (first | exact (Kd.R_reads' HO257.out).2.2 | (with_reducible refine Kd.C_alloc ?_ _) | (with_reducible refine Kd.C_drewN ?_ _) | (with_reducible refine Kd.C_drew ?_))); (case side4 => exact (Kd.R_reads' HO257.out).2.1); rintro e w20 ⟨v260, rfl, ho0, hb⟩; refine ⟨_, rfl, ?_⟩; replace HO257 := hob_ HO257 hb; have HO261 := Aside0.mk (Kd.R_lower ho0 bls_); replace BK254 := bkb_ BK254 hb; replace HB := hbs_ hb; (try clear hb); (try clear hb2); (try clear hk); (try clear hi); (try clear ho0); obtain ⟨Ao21, co21, eo21⟩ := Kd.R_slice HO261.out; subst eo21; have p262 : 0 ≤ (t258 : Int) := od_; have q262 : t258 < (t259.length : Int) := od_; obtain ⟨ad262, e262, hx262_0⟩ := Kd.at_int (Kd.R_reads' HO261.out).2.2 t258 p262 q262; cases e262; replace p262 := eq_true p262; replace q262 := eq_true q262))
  go_ret
  exact ⟨eq_, bl_⟩
def impl_in.f (a0 : Int) (a1 : Int) (a2 : Int) : Option (Bool) := if a0 ≥ a1 then (some (decide (a0 ≤ a2))) else (some false)
set_option maxHeartbeats 8000000 in
set_option maxRecDepth 100000 in
theorem impl_in.calls (a0 : Int) (a1 : Int) (a2 : Int) (r : Bool) (w : World) (h : impl_in.f a0 a1 a2 = some r) :
  Calls Try.prog 83 #[.int .i64 a0, .int .i64 a1, .int .i64 a2] w fun e w' => e = .returned (.bool r) ∧ Drawn0 w w' := by
 have H : (if a0 ≥ a1 then (some (decide (a0 ≤ a2))) else (some false)) = some r := h
 clear h
 by_cases c4 : a0 ≥ a1
 ·rw [if_pos c4] at H
  have c4b0 : decide (a1 ≤ a0) = true := decide_eq_true c4
  clear c4
  obtain rfl := Option.some.inj H
  go_enter Try.func83, Try.ntmps83
  go_wp2
  go_ret
  exact ⟨by first | rfl | (simp; done) | (simp [*]; done), by repeat (first | exact Drawn0.refl _ | apply Drawn0.step)⟩
 ·rw [if_neg c4] at H
  have c4b0 : decide (a1 ≤ a0) = false := decide_eq_false c4
  clear c4
  obtain rfl := Option.some.inj H
  go_enter Try.func83, Try.ntmps83
  go_wp2
  go_ret
  exact ⟨by first | rfl | (simp; done) | (simp [*]; done), by repeat (first | exact Drawn0.refl _ | apply Drawn0.step)⟩
def impl_RoleOk.f (a0_0 : Int) (a0_1 : Int) : Option (Bool) := (impl_in.f a0_0 0 5).bind fun t264 => (if t264 = true then ((impl_in.f a0_1 0 3).bind fun t265 => (some t265)) else (some false))
set_option maxHeartbeats 8000000 in
set_option maxRecDepth 100000 in
theorem impl_RoleOk.calls (a0_0 : Int) (a0_1 : Int) (r : Bool) (w : World) (h : impl_RoleOk.f a0_0 a0_1 = some r) :
  Calls Try.prog 103 #[.agg #[.int .i64 a0_0, .int .i64 a0_1]] w fun e w' => e = .returned (.bool r) ∧ Below w.heap.size w w' := by
 have hu27 := Try.underlying27
 have HB := Aside0.mk (Below.refl w.heap.size w)
 have H : ((impl_in.f a0_0 0 5).bind fun t264 => (if t264 = true then ((impl_in.f a0_1 0 3).bind fun t265 => (some t265)) else (some false))) = some r := h
 clear h
 obtain ⟨t264, A2, H⟩ := bindE_ H
 by_cases c3 : t264 = true
 ·subst c3
  replace H := ite_t_ H
  obtain ⟨t265, A4, H⟩ := bindE_ H
  obtain rfl := Option.some.inj H
  go_enter Try.func103, Try.ntmps103
  go_wp2_with (first | ((with_reducible refine gate_dst (N := 1) rfl ?_); refine box_event ?hg (N := 1) ?hd (cs := #[.int .i64 a0_0, .int .i64 a0_1]) (t := 27) ?hr ?_; (case hd => rfl); (case hg => rfl); (case hr => first | (go_simp; done) | (go_simp; rfl)); intro gb263 hg w5 hbox hb; have BK263 := Aside0.mk (hbox); have GW263 := gs_ hg; have GE263 := gs_ hg; replace HB := hbs_ hb; clear hb hbox hg; have hcz6 := blk_cell BK263.out; have hfz6 := blk_frozen BK263.out) | ((with_reducible refine gate_callee (f := 83) rfl ?_); refine goesC_ (some 5) Try.func83 #[.int .i64 a0_0, .int .i64 0, .int .i64 5] ?_; (with_reducible refine (impl_in.calls a0_0 0 5 true _ A2.out).mono ?_); rintro e w' ⟨rfl, ⟨nd, rfl⟩⟩; refine ⟨_, rfl, ?_⟩) | (go_at_call 83; (with_reducible refine (impl_in.calls a0_1 0 3 t265 _ A4.out).mono ?_); rintro e w' ⟨rfl, ⟨nd, rfl⟩⟩))
  go_ret
  exact ⟨eq_, bl_⟩
 ·replace c3 := Bool.eq_false_iff.mpr c3
  subst c3
  replace H := ite_f_ H
  obtain rfl := Option.some.inj H
  go_enter Try.func103, Try.ntmps103
  go_wp2_with (first | ((with_reducible refine gate_dst (N := 1) rfl ?_); refine box_event ?hg (N := 1) ?hd (cs := #[.int .i64 a0_0, .int .i64 a0_1]) (t := 27) ?hr ?_; (case hd => rfl); (case hg => rfl); (case hr => first | (go_simp; done) | (go_simp; rfl)); intro gb263 hg w7 hbox hb; have BK263 := Aside0.mk (hbox); have GW263 := gs_ hg; have GE263 := gs_ hg; replace HB := hbs_ hb; clear hb hbox hg; have hcz8 := blk_cell BK263.out; have hfz8 := blk_frozen BK263.out) | ((with_reducible refine gate_callee (f := 83) rfl ?_); refine goesC_ (some 5) Try.func83 #[.int .i64 a0_0, .int .i64 0, .int .i64 5] ?_; (with_reducible refine (impl_in.calls a0_0 0 5 false _ A2.out).mono ?_); rintro e w' ⟨rfl, ⟨nd, rfl⟩⟩; refine ⟨_, rfl, ?_⟩))
  go_ret
  exact ⟨eq_, bl_⟩
def impl_isPerson.f (a0 : Int) : Option (Bool) := (impl_in.f a0 0 5).bind fun t266 => (some t266)
set_option maxHeartbeats 8000000 in
set_option maxRecDepth 100000 in
theorem impl_isPerson.calls (a0 : Int) (r : Bool) (w : World) (h : impl_isPerson.f a0 = some r) :
  Calls Try.prog 121 #[.int .i64 a0] w fun e w' => e = .returned (.bool r) ∧ Drawn0 w w' := by
 have H : ((impl_in.f a0 0 5).bind fun t266 => (some t266)) = some r := h
 clear h
 obtain ⟨t266, A2, H⟩ := bindE_ H
 obtain rfl := Option.some.inj H
 go_enter Try.func121, Try.ntmps121
 go_wp2_with (first | ((with_reducible refine gate_callee (f := 83) rfl ?_); refine goesC_ (some 4) Try.func83 #[.int .i64 a0, .int .i64 0, .int .i64 5] ?_; (with_reducible refine (impl_in.calls a0 0 5 t266 _ A2.out).mono ?_); rintro e w' ⟨rfl, ⟨nd, rfl⟩⟩; refine ⟨_, rfl, ?_⟩))
 go_ret
 exact ⟨by first | rfl | (simp; done) | (simp [*]; done), by repeat (first | exact Drawn0.refl _ | apply Drawn0.step)⟩
def impl_CredOk.j0 : Nat → Bool → Int → Int → Int → Int → Int → Int → Int → Int → Int → Int → Option (Bool)
 | 0, _, _, _, _, _, _, _, _, _, _, _ => none
 | k + 1, x19, x268000, x268001, x268002, x268003, x268004, x268005, x268006, x268007, x268008, x268009 => if x19 = true then (some false) else (if x268000 = 1 then ((impl_isPerson.f x268003).bind fun t272 => (if t272 = true then (if (x268004 == 0 && (x268005 == 0)) = true then (some (x268006 == 0 && (x268007 == 0))) else (some false)) else (some false))) else (if x268000 = 2 then (if x268003 = 0 then ((impl_RoleOk.f x268004 x268005).bind fun t273 => (if t273 = true then (some (x268006 == 0 && (x268007 == 0))) else (some false))) else (some false)) else (if x268000 = 3 then (if x268003 = 0 then ((impl_RoleOk.f x268004 x268005).bind fun t274 => (if t274 = true then ((impl_RoleOk.f x268006 x268007).bind fun t275 => (if t275 = true then (some (x268006 == 0)) else (some false))) else (some false))) else (some false)) else (if x268000 = 4 then (if x268003 = 0 then ((impl_RoleOk.f x268004 x268005).bind fun t276 => (if t276 = true then ((impl_RoleOk.f x268006 x268007).bind fun t277 => (some t277)) else (some false))) else (some false)) else (some false)))))
def impl_CredOk.f (k : Nat) (a0_0 : Int) (a0_1 : Int) (a0_2 : Int) (a0_3 : Int) (a0_4 : Int) (a0_5 : Int) (a0_6 : Int) (a0_7 : Int) (a0_8 : Int) (a0_9 : Int) : Option (Bool) := (impl_RoleOk.f a0_1 a0_2).bind fun t268 => (if t268 = true then ((impl_in.f a0_8 1 9999).bind fun t269 => (if t269 = true then ((impl_in.f a0_9 0 99).bind fun t270 => (impl_CredOk.j0 k (!t270) a0_0 a0_1 a0_2 a0_3 a0_4 a0_5 a0_6 a0_7 a0_8 a0_9)) else (impl_CredOk.j0 k true a0_0 a0_1 a0_2 a0_3 a0_4 a0_5 a0_6 a0_7 a0_8 a0_9))) else (impl_CredOk.j0 k true a0_0 a0_1 a0_2 a0_3 a0_4 a0_5 a0_6 a0_7 a0_8 a0_9))
set_option maxHeartbeats 8000000 in
set_option maxRecDepth 100000 in
theorem impl_CredOk.calls (k : Nat) (a0_0 : Int) (a0_1 : Int) (a0_2 : Int) (a0_3 : Int) (a0_4 : Int) (a0_5 : Int) (a0_6 : Int) (a0_7 : Int) (a0_8 : Int) (a0_9 : Int) (r : Bool) (w : World) (h : impl_CredOk.f k a0_0 a0_1 a0_2 a0_3 a0_4 a0_5 a0_6 a0_7 a0_8 a0_9 = some r) :
  Calls Try.prog 75 #[.agg #[.int .i64 a0_0, .int .i64 a0_1, .int .i64 a0_2, .int .i64 a0_3, .int .i64 a0_4, .int .i64 a0_5, .int .i64 a0_6, .int .i64 a0_7, .int .i64 a0_8, .int .i64 a0_9]] w fun e w' => e = .returned (.bool r) ∧ Below w.heap.size w w' := by
 have hu46 := Try.underlying46
 have hu27 := Try.underlying27
 have HB := Aside0.mk (Below.refl w.heap.size w)
 have H : ((impl_RoleOk.f a0_1 a0_2).bind fun t268 => (if t268 = true then ((impl_in.f a0_8 1 9999).bind fun t269 => (if t269 = true then ((impl_in.f a0_9 0 99).bind fun t270 => (impl_CredOk.j0 k (!t270) a0_0 a0_1 a0_2 a0_3 a0_4 a0_5 a0_6 a0_7 a0_8 a0_9)) else (impl_CredOk.j0 k true a0_0 a0_1 a0_2 a0_3 a0_4 a0_5 a0_6 a0_7 a0_8 a0_9))) else (impl_CredOk.j0 k true a0_0 a0_1 a0_2 a0_3 a0_4 a0_5 a0_6 a0_7 a0_8 a0_9))) = some r := h
 clear h
 have HC2 := Aside0.mk H
 clear H
 go_enter Try.func75, Try.ntmps75
 go_upto_region 1 with (first | ((with_reducible refine gate_dst (N := 1) rfl ?_); refine box_event ?hg (N := 1) ?hd (cs := #[.int .i64 a0_0, .int .i64 a0_1, .int .i64 a0_2, .int .i64 a0_3, .int .i64 a0_4, .int .i64 a0_5, .int .i64 a0_6, .int .i64 a0_7, .int .i64 a0_8, .int .i64 a0_9]) (t := 46) ?hr ?_; (case hd => rfl); (case hg => rfl); (case hr => first | (go_simp; done) | (go_simp; rfl)); intro gb267 hg w3 hbox hb; have BK267 := Aside0.mk (hbox); have GW267 := gs_ hg; have GE267 := gs_ hg; replace HB := hbs_ hb; clear hb hbox hg))
 (try simp only [Act.put, List.setIfInBounds_toArray, List.set_cons_zero, List.set_cons_succ])
 go_cut [19] (fun v19 wc => ∃ (kq : Nat) (x19_1 : Bool), v19 = .bool x19_1 ∧ Aside0 (impl_CredOk.j0 kq x19_1 a0_0 a0_1 a0_2 a0_3 a0_4 a0_5 a0_6 a0_7 a0_8 a0_9 = some r) ∧ Aside0 (kq ≤ k) ∧ Aside0 (wc.heap[gb267]? = some (.cells #[.int .i64 a0_0, .int .i64 a0_1, .int .i64 a0_2, .int .i64 a0_3, .int .i64 a0_4, .int .i64 a0_5, .int .i64 a0_6, .int .i64 a0_7, .int .i64 a0_8, .int .i64 a0_9] 46 (0, 0))) ∧ Aside0 (Below w.heap.size w wc))
 case first =>
  have H := HC2.out
  clear HC2
  obtain ⟨t268, A4, H⟩ := bindE_ H
  by_cases c5 : t268 = true
  ·subst c5
   replace H := ite_t_ H
   obtain ⟨t269, A6, H⟩ := bindE_ H
   by_cases c7 : t269 = true
   ·subst c7
    replace H := ite_t_ H
    obtain ⟨t270, A8, H⟩ := bindE_ H
    have H' := Aside0.mk H
    clear H
    have hcz9 := blk_cell BK267.out
    have hfz9 := blk_frozen BK267.out
    go_wp2_with (first | ((with_reducible refine gate_callee (f := 103) rfl ?_); refine goesC_ (some 6) Try.func103 #[.agg #[.int .i64 a0_1, .int .i64 a0_2]] ?_; (with_reducible refine (impl_RoleOk.calls a0_1 a0_2 true _ A4.out).mono ?_); rintro e w10 ⟨rfl, hb⟩; refine ⟨_, rfl, ?_⟩; replace BK267 := bkb_ BK267 hb; replace HB := hbs_ hb; clear hb; have hcz11 := blk_cell BK267.out; have hfz11 := blk_frozen BK267.out) | (go_at_call 83; (with_reducible refine (impl_in.calls a0_8 1 9999 true _ A6.out).mono ?_); rintro e w' ⟨rfl, ⟨nd, rfl⟩⟩) | (go_at_call 83; (with_reducible refine (impl_in.calls a0_9 0 99 t270 _ A8.out).mono ?_); rintro e w' ⟨rfl, ⟨nd, rfl⟩⟩))
    go_meet
    case rel => exact ⟨_, (!t270), rf_, H', ⟨by first | omega | exact Nat.le_refl _⟩, ⟨bk_ BK267⟩, ⟨bl_⟩⟩
   ·replace c7 := Bool.eq_false_iff.mpr c7
    subst c7
    replace H := ite_f_ H
    have H' := Aside0.mk H
    clear H
    have hcz12 := blk_cell BK267.out
    have hfz12 := blk_frozen BK267.out
    go_wp2_with (first | ((with_reducible refine gate_callee (f := 103) rfl ?_); refine goesC_ (some 6) Try.func103 #[.agg #[.int .i64 a0_1, .int .i64 a0_2]] ?_; (with_reducible refine (impl_RoleOk.calls a0_1 a0_2 true _ A4.out).mono ?_); rintro e w13 ⟨rfl, hb⟩; refine ⟨_, rfl, ?_⟩; replace BK267 := bkb_ BK267 hb; replace HB := hbs_ hb; clear hb; have hcz14 := blk_cell BK267.out; have hfz14 := blk_frozen BK267.out) | (go_at_call 83; (with_reducible refine (impl_in.calls a0_8 1 9999 false _ A6.out).mono ?_); rintro e w' ⟨rfl, ⟨nd, rfl⟩⟩))
    go_meet
    case rel => exact ⟨_, (true), rf_, H', ⟨by first | omega | exact Nat.le_refl _⟩, ⟨bk_ BK267⟩, ⟨bl_⟩⟩
  ·replace c5 := Bool.eq_false_iff.mpr c5
   subst c5
   replace H := ite_f_ H
   have H' := Aside0.mk H
   clear H
   have hcz15 := blk_cell BK267.out
   have hfz15 := blk_frozen BK267.out
   go_wp2_with (first | ((with_reducible refine gate_callee (f := 103) rfl ?_); refine goesC_ (some 6) Try.func103 #[.agg #[.int .i64 a0_1, .int .i64 a0_2]] ?_; (with_reducible refine (impl_RoleOk.calls a0_1 a0_2 false _ A4.out).mono ?_); rintro e w16 ⟨rfl, hb⟩; refine ⟨_, rfl, ?_⟩; replace BK267 := bkb_ BK267 hb; replace HB := hbs_ hb; clear hb))
   go_meet
   case rel => exact ⟨_, (true), rf_, H', ⟨by first | omega | exact Nat.le_refl _⟩, ⟨bk_ BK267⟩, ⟨bl_⟩⟩
 case rest =>
  clear HC2
  try clear c1
  try clear p2
  try clear c5
  try clear c7
  try clear c10
  try clear hcz11
  try clear hcz12
  try clear hcz14
  try clear hcz15
  try clear hcz9
  try clear hfz11
  try clear hfz12
  try clear hfz14
  try clear hfz15
  try clear hfz9
  obtain ⟨kq, x19_1, rfl, HA, HJ1, BK267, HB⟩ := hcut
  cases kq with
  | zero => exact absurd HA.out (by simp [impl_CredOk.j0])
  | succ kj1 =>
   have H := HA.out
   clear HA
   simp only [impl_CredOk.j0] at H
   by_cases c17 : x19_1 = true
   ·subst c17
    replace H := ite_t_ H
    obtain rfl := Option.some.inj H
    go_wp2
    go_ret
    exact ⟨eq_, bl_⟩
   ·replace c17 := Bool.eq_false_iff.mpr c17
    subst c17
    replace H := ite_f_ H
    by_cases c18 : a0_0 = 1
    ·rw [if_pos c18] at H
     have c18b0 : (a0_0 == 1) = true := beq_iff_eq.mpr c18
     have c18b1 : (a0_0 != 1) = false := bne_eq_false_iff_eq.mpr c18
     clear c18
     obtain ⟨t272, A19, H⟩ := bindE_ H
     by_cases c20 : t272 = true
     ·subst c20
      replace H := ite_t_ H
      by_cases c21 : (a0_4 == 0 && (a0_5 == 0)) = true
      ·rw [if_pos c21] at H
       have c21b0 : (a0_4 == 0 && (a0_5 == 0)) = true := c21
       (try (have c21b1 : decide (a0_4 = 0 && (a0_5 == 0)) = true := by simpa using c21))
       (try (have c21b2 : (a0_4 == 0 && (a0_5 == 0)) = true := by simpa using c21))
       clear c21
       obtain rfl := Option.some.inj H
       go_wp2_with (first | ((with_reducible refine gate_dst (N := 3) rfl ?_); refine box_event ?hg (N := 3) ?hd (cs := #[.int .i64 0, .int .i64 0]) (t := 27) ?hr ?_; (case hd => rfl); (case hg => rfl); (case hr => first | (go_simp; done) | (go_simp; rfl)); intro gb271 hg w22 hbox hb; have BK271 := Aside0.mk (hbox); have GW271 := gs_ hg; have GE271 := gs_ hg; replace HB := hbs_ hb; have NB267_271 := nl_ hg BK267; have NB271_267 := nr_ hg BK267; replace BK267 := bkb_ BK267 hb; clear hb hbox hg; have hnb23 := NB271_267.out; have hnc23 := NB267_271.out; have hcz24 := blk_cell BK271.out; have hfz24 := blk_frozen BK271.out; have hcz25 := blk_cell BK267.out; have hfz25 := blk_frozen BK267.out) | ((with_reducible refine gate_callee (f := 121) rfl ?_); refine goesC_ (some 27) Try.func121 #[.int .i64 a0_3] ?_; (with_reducible refine (impl_isPerson.calls a0_3 true _ A19.out).mono ?_); rintro e w' ⟨rfl, ⟨nd, rfl⟩⟩; refine ⟨_, rfl, ?_⟩))
       go_ret
       exact ⟨eq_, bl_⟩
      ·rw [if_neg c21] at H
       have c21b0 : (a0_4 == 0 && (a0_5 == 0)) = false := by simpa using c21
       (try (have c21b1 : decide (a0_4 = 0 && (a0_5 == 0)) = false := by simpa using c21))
       (try (have c21b2 : (a0_4 == 0 && (a0_5 == 0)) = false := by simpa using c21))
       (try (have c21b3 : ¬ (a0_4 = 0 && (a0_5 == 0)) := by simpa using c21))
       clear c21
       obtain rfl := Option.some.inj H
       go_wp2_with (first | ((with_reducible refine gate_dst (N := 3) rfl ?_); refine box_event ?hg (N := 3) ?hd (cs := #[.int .i64 0, .int .i64 0]) (t := 27) ?hr ?_; (case hd => rfl); (case hg => rfl); (case hr => first | (go_simp; done) | (go_simp; rfl)); intro gb271 hg w26 hbox hb; have BK271 := Aside0.mk (hbox); have GW271 := gs_ hg; have GE271 := gs_ hg; replace HB := hbs_ hb; have NB267_271 := nl_ hg BK267; have NB271_267 := nr_ hg BK267; replace BK267 := bkb_ BK267 hb; clear hb hbox hg; have hnb27 := NB271_267.out; have hnc27 := NB267_271.out; have hcz28 := blk_cell BK271.out; have hfz28 := blk_frozen BK271.out; have hcz29 := blk_cell BK267.out; have hfz29 := blk_frozen BK267.out) | ((with_reducible refine gate_callee (f := 121) rfl ?_); refine goesC_ (some 27) Try.func121 #[.int .i64 a0_3] ?_; (with_reducible refine (impl_isPerson.calls a0_3 true _ A19.out).mono ?_); rintro e w' ⟨rfl, ⟨nd, rfl⟩⟩; refine ⟨_, rfl, ?_⟩))
       go_ret
       exact ⟨eq_, bl_⟩
     ·replace c20 := Bool.eq_false_iff.mpr c20
      subst c20
      replace H := ite_f_ H
      obtain rfl := Option.some.inj H
      go_wp2_with (first | ((with_reducible refine gate_dst (N := 3) rfl ?_); refine box_event ?hg (N := 3) ?hd (cs := #[.int .i64 0, .int .i64 0]) (t := 27) ?hr ?_; (case hd => rfl); (case hg => rfl); (case hr => first | (go_simp; done) | (go_simp; rfl)); intro gb271 hg w30 hbox hb; have BK271 := Aside0.mk (hbox); have GW271 := gs_ hg; have GE271 := gs_ hg; replace HB := hbs_ hb; have NB267_271 := nl_ hg BK267; have NB271_267 := nr_ hg BK267; replace BK267 := bkb_ BK267 hb; clear hb hbox hg; have hnb31 := NB271_267.out; have hnc31 := NB267_271.out; have hcz32 := blk_cell BK271.out; have hfz32 := blk_frozen BK271.out; have hcz33 := blk_cell BK267.out; have hfz33 := blk_frozen BK267.out) | ((with_reducible refine gate_callee (f := 121) rfl ?_); refine goesC_ (some 27) Try.func121 #[.int .i64 a0_3] ?_; (with_reducible refine (impl_isPerson.calls a0_3 false _ A19.out).mono ?_); rintro e w' ⟨rfl, ⟨nd, rfl⟩⟩; refine ⟨_, rfl, ?_⟩))
      go_ret
      exact ⟨eq_, bl_⟩
    ·rw [if_neg c18] at H
     have c18b0 : (a0_0 == 1) = false := beq_eq_false_iff_ne.mpr c18
     have c18b1 : (a0_0 != 1) = true := bne_iff_ne.mpr c18
     by_cases c34 : a0_0 = 2
     ·rw [if_pos c34] at H
      have c34b0 : (a0_0 == 2) = true := beq_iff_eq.mpr c34
      have c34b1 : (a0_0 != 2) = false := bne_eq_false_iff_eq.mpr c34
      clear c34
      by_cases c35 : a0_3 = 0
      ·rw [if_pos c35] at H
       have c35b0 : (a0_3 == 0) = true := beq_iff_eq.mpr c35
       have c35b1 : (a0_3 != 0) = false := bne_eq_false_iff_eq.mpr c35
       clear c35
       obtain ⟨t273, A36, H⟩ := bindE_ H
       by_cases c37 : t273 = true
       ·subst c37
        replace H := ite_t_ H
        obtain rfl := Option.some.inj H
        go_wp2_with (first | ((with_reducible refine gate_dst (N := 3) rfl ?_); refine box_event ?hg (N := 3) ?hd (cs := #[.int .i64 0, .int .i64 0]) (t := 27) ?hr ?_; (case hd => rfl); (case hg => rfl); (case hr => first | (go_simp; done) | (go_simp; rfl)); intro gb271 hg w38 hbox hb; have BK271 := Aside0.mk (hbox); have GW271 := gs_ hg; have GE271 := gs_ hg; replace HB := hbs_ hb; have NB267_271 := nl_ hg BK267; have NB271_267 := nr_ hg BK267; replace BK267 := bkb_ BK267 hb; clear hb hbox hg; have hnb39 := NB271_267.out; have hnc39 := NB267_271.out; have hcz40 := blk_cell BK271.out; have hfz40 := blk_frozen BK271.out; have hcz41 := blk_cell BK267.out; have hfz41 := blk_frozen BK267.out) | (go_at_call 103; (with_reducible refine (impl_RoleOk.calls a0_4 a0_5 true _ A36.out).mono ?_); rintro e w42 ⟨rfl, hb⟩; replace BK267 := Aside0.mk (blk_below (g := gb267) (o := .cells #[.int .i64 a0_0, .int .i64 a0_1, .int .i64 a0_2, .int .i64 a0_3, .int .i64 a0_4, .int .i64 a0_5, .int .i64 a0_6, .int .i64 a0_7, .int .i64 a0_8, .int .i64 a0_9] 46 (0, 0)) (bk_ BK267) hb); replace BK271 := Aside0.mk (blk_below (g := gb271) (o := .cells #[.int .i64 0, .int .i64 0] 27 (0, 0)) (bk_ BK271) hb); replace HB := hbs_ hb; clear hb; have hcz43 := blk_cell BK267.out; have hfz43 := blk_frozen BK267.out; have hcz44 := blk_cell BK271.out; have hfz44 := blk_frozen BK271.out))
        go_ret
        exact ⟨eq_, bl_⟩
       ·replace c37 := Bool.eq_false_iff.mpr c37
        subst c37
        replace H := ite_f_ H
        obtain rfl := Option.some.inj H
        go_wp2_with (first | ((with_reducible refine gate_dst (N := 3) rfl ?_); refine box_event ?hg (N := 3) ?hd (cs := #[.int .i64 0, .int .i64 0]) (t := 27) ?hr ?_; (case hd => rfl); (case hg => rfl); (case hr => first | (go_simp; done) | (go_simp; rfl)); intro gb271 hg w45 hbox hb; have BK271 := Aside0.mk (hbox); have GW271 := gs_ hg; have GE271 := gs_ hg; replace HB := hbs_ hb; have NB267_271 := nl_ hg BK267; have NB271_267 := nr_ hg BK267; replace BK267 := bkb_ BK267 hb; clear hb hbox hg; have hnb46 := NB271_267.out; have hnc46 := NB267_271.out; have hcz47 := blk_cell BK271.out; have hfz47 := blk_frozen BK271.out; have hcz48 := blk_cell BK267.out; have hfz48 := blk_frozen BK267.out) | (go_at_call 103; (with_reducible refine (impl_RoleOk.calls a0_4 a0_5 false _ A36.out).mono ?_); rintro e w49 ⟨rfl, hb⟩; replace BK267 := Aside0.mk (blk_below (g := gb267) (o := .cells #[.int .i64 a0_0, .int .i64 a0_1, .int .i64 a0_2, .int .i64 a0_3, .int .i64 a0_4, .int .i64 a0_5, .int .i64 a0_6, .int .i64 a0_7, .int .i64 a0_8, .int .i64 a0_9] 46 (0, 0)) (bk_ BK267) hb); replace BK271 := Aside0.mk (blk_below (g := gb271) (o := .cells #[.int .i64 0, .int .i64 0] 27 (0, 0)) (bk_ BK271) hb); replace HB := hbs_ hb; clear hb))
        go_ret
        exact ⟨eq_, bl_⟩
      ·rw [if_neg c35] at H
       have c35b0 : (a0_3 == 0) = false := beq_eq_false_iff_ne.mpr c35
       have c35b1 : (a0_3 != 0) = true := bne_iff_ne.mpr c35
       obtain rfl := Option.some.inj H
       go_wp2_with (first | ((with_reducible refine gate_dst (N := 3) rfl ?_); refine box_event ?hg (N := 3) ?hd (cs := #[.int .i64 0, .int .i64 0]) (t := 27) ?hr ?_; (case hd => rfl); (case hg => rfl); (case hr => first | (go_simp; done) | (go_simp; rfl)); intro gb271 hg w50 hbox hb; have BK271 := Aside0.mk (hbox); have GW271 := gs_ hg; have GE271 := gs_ hg; replace HB := hbs_ hb; have NB267_271 := nl_ hg BK267; have NB271_267 := nr_ hg BK267; replace BK267 := bkb_ BK267 hb; clear hb hbox hg; have hnb51 := NB271_267.out; have hnc51 := NB267_271.out; have hcz52 := blk_cell BK271.out; have hfz52 := blk_frozen BK271.out; have hcz53 := blk_cell BK267.out; have hfz53 := blk_frozen BK267.out))
       go_ret
       exact ⟨eq_, bl_⟩
     ·rw [if_neg c34] at H
      have c34b0 : (a0_0 == 2) = false := beq_eq_false_iff_ne.mpr c34
      have c34b1 : (a0_0 != 2) = true := bne_iff_ne.mpr c34
      by_cases c54 : a0_0 = 3
      ·rw [if_pos c54] at H
       have c54b0 : (a0_0 == 3) = true := beq_iff_eq.mpr c54
       have c54b1 : (a0_0 != 3) = false := bne_eq_false_iff_eq.mpr c54
       clear c54
       by_cases c55 : a0_3 = 0
       ·rw [if_pos c55] at H
        have c55b0 : (a0_3 == 0) = true := beq_iff_eq.mpr c55
        have c55b1 : (a0_3 != 0) = false := bne_eq_false_iff_eq.mpr c55
        clear c55
        obtain ⟨t274, A56, H⟩ := bindE_ H
        by_cases c57 : t274 = true
        ·subst c57
         replace H := ite_t_ H
         obtain ⟨t275, A58, H⟩ := bindE_ H
         by_cases c59 : t275 = true
         ·subst c59
          replace H := ite_t_ H
          obtain rfl := Option.some.inj H
          go_wp2_with (first | ((with_reducible refine gate_dst (N := 3) rfl ?_); refine box_event ?hg (N := 3) ?hd (cs := #[.int .i64 0, .int .i64 0]) (t := 27) ?hr ?_; (case hd => rfl); (case hg => rfl); (case hr => first | (go_simp; done) | (go_simp; rfl)); intro gb271 hg w60 hbox hb; have BK271 := Aside0.mk (hbox); have GW271 := gs_ hg; have GE271 := gs_ hg; replace HB := hbs_ hb; have NB267_271 := nl_ hg BK267; have NB271_267 := nr_ hg BK267; replace BK267 := bkb_ BK267 hb; clear hb hbox hg; have hnb61 := NB271_267.out; have hnc61 := NB267_271.out; have hcz62 := blk_cell BK271.out; have hfz62 := blk_frozen BK271.out; have hcz63 := blk_cell BK267.out; have hfz63 := blk_frozen BK267.out) | (go_at_call 103; (with_reducible refine (impl_RoleOk.calls a0_4 a0_5 true _ A56.out).mono ?_); rintro e w64 ⟨rfl, hb⟩; replace BK267 := Aside0.mk (blk_below (g := gb267) (o := .cells #[.int .i64 a0_0, .int .i64 a0_1, .int .i64 a0_2, .int .i64 a0_3, .int .i64 a0_4, .int .i64 a0_5, .int .i64 a0_6, .int .i64 a0_7, .int .i64 a0_8, .int .i64 a0_9] 46 (0, 0)) (bk_ BK267) hb); replace BK271 := Aside0.mk (blk_below (g := gb271) (o := .cells #[.int .i64 0, .int .i64 0] 27 (0, 0)) (bk_ BK271) hb); replace HB := hbs_ hb; clear hb; have hcz65 := blk_cell BK267.out; have hfz65 := blk_frozen BK267.out) | (go_at_call 103; (with_reducible refine (impl_RoleOk.calls a0_6 a0_7 true _ A58.out).mono ?_); rintro e w66 ⟨rfl, hb⟩; replace BK267 := bkb_ BK267 hb; replace BK271 := bkb_ BK271 hb; replace HB := hbs_ hb; clear hb; have hcz67 := blk_cell BK267.out; have hfz67 := blk_frozen BK267.out))
          go_ret
          exact ⟨eq_, bl_⟩
         ·replace c59 := Bool.eq_false_iff.mpr c59
          subst c59
          replace H := ite_f_ H
          obtain rfl := Option.some.inj H
          go_wp2_with (first | ((with_reducible refine gate_dst (N := 3) rfl ?_); refine box_event ?hg (N := 3) ?hd (cs := #[.int .i64 0, .int .i64 0]) (t := 27) ?hr ?_; (case hd => rfl); (case hg => rfl); (case hr => first | (go_simp; done) | (go_simp; rfl)); intro gb271 hg w68 hbox hb; have BK271 := Aside0.mk (hbox); have GW271 := gs_ hg; have GE271 := gs_ hg; replace HB := hbs_ hb; have NB267_271 := nl_ hg BK267; have NB271_267 := nr_ hg BK267; replace BK267 := bkb_ BK267 hb; clear hb hbox hg; have hnb69 := NB271_267.out; have hnc69 := NB267_271.out; have hcz70 := blk_cell BK271.out; have hfz70 := blk_frozen BK271.out; have hcz71 := blk_cell BK267.out; have hfz71 := blk_frozen BK267.out) | (go_at_call 103; (with_reducible refine (impl_RoleOk.calls a0_4 a0_5 true _ A56.out).mono ?_); rintro e w72 ⟨rfl, hb⟩; replace BK267 := Aside0.mk (blk_below (g := gb267) (o := .cells #[.int .i64 a0_0, .int .i64 a0_1, .int .i64 a0_2, .int .i64 a0_3, .int .i64 a0_4, .int .i64 a0_5, .int .i64 a0_6, .int .i64 a0_7, .int .i64 a0_8, .int .i64 a0_9] 46 (0, 0)) (bk_ BK267) hb); replace BK271 := Aside0.mk (blk_below (g := gb271) (o := .cells #[.int .i64 0, .int .i64 0] 27 (0, 0)) (bk_ BK271) hb); replace HB := hbs_ hb; clear hb; have hcz73 := blk_cell BK267.out; have hfz73 := blk_frozen BK267.out) | (go_at_call 103; (with_reducible refine (impl_RoleOk.calls a0_6 a0_7 false _ A58.out).mono ?_); rintro e w74 ⟨rfl, hb⟩; replace BK267 := bkb_ BK267 hb; replace BK271 := bkb_ BK271 hb; replace HB := hbs_ hb; clear hb))
          go_ret
          exact ⟨eq_, bl_⟩
        ·replace c57 := Bool.eq_false_iff.mpr c57
         subst c57
         replace H := ite_f_ H
         obtain rfl := Option.some.inj H
         go_wp2_with (first | ((with_reducible refine gate_dst (N := 3) rfl ?_); refine box_event ?hg (N := 3) ?hd (cs := #[.int .i64 0, .int .i64 0]) (t := 27) ?hr ?_; (case hd => rfl); (case hg => rfl); (case hr => first | (go_simp; done) | (go_simp; rfl)); intro gb271 hg w75 hbox hb; have BK271 := Aside0.mk (hbox); have GW271 := gs_ hg; have GE271 := gs_ hg; replace HB := hbs_ hb; have NB267_271 := nl_ hg BK267; have NB271_267 := nr_ hg BK267; replace BK267 := bkb_ BK267 hb; clear hb hbox hg; have hnb76 := NB271_267.out; have hnc76 := NB267_271.out; have hcz77 := blk_cell BK271.out; have hfz77 := blk_frozen BK271.out; have hcz78 := blk_cell BK267.out; have hfz78 := blk_frozen BK267.out) | (go_at_call 103; (with_reducible refine (impl_RoleOk.calls a0_4 a0_5 false _ A56.out).mono ?_); rintro e w79 ⟨rfl, hb⟩; replace BK267 := Aside0.mk (blk_below (g := gb267) (o := .cells #[.int .i64 a0_0, .int .i64 a0_1, .int .i64 a0_2, .int .i64 a0_3, .int .i64 a0_4, .int .i64 a0_5, .int .i64 a0_6, .int .i64 a0_7, .int .i64 a0_8, .int .i64 a0_9] 46 (0, 0)) (bk_ BK267) hb); replace BK271 := Aside0.mk (blk_below (g := gb271) (o := .cells #[.int .i64 0, .int .i64 0] 27 (0, 0)) (bk_ BK271) hb); replace HB := hbs_ hb; clear hb))
         go_ret
         exact ⟨eq_, bl_⟩
       ·rw [if_neg c55] at H
        have c55b0 : (a0_3 == 0) = false := beq_eq_false_iff_ne.mpr c55
        have c55b1 : (a0_3 != 0) = true := bne_iff_ne.mpr c55
        obtain rfl := Option.some.inj H
        go_wp2_with (first | ((with_reducible refine gate_dst (N := 3) rfl ?_); refine box_event ?hg (N := 3) ?hd (cs := #[.int .i64 0, .int .i64 0]) (t := 27) ?hr ?_; (case hd => rfl); (case hg => rfl); (case hr => first | (go_simp; done) | (go_simp; rfl)); intro gb271 hg w80 hbox hb; have BK271 := Aside0.mk (hbox); have GW271 := gs_ hg; have GE271 := gs_ hg; replace HB := hbs_ hb; have NB267_271 := nl_ hg BK267; have NB271_267 := nr_ hg BK267; replace BK267 := bkb_ BK267 hb; clear hb hbox hg; have hnb81 := NB271_267.out; have hnc81 := NB267_271.out; have hcz82 := blk_cell BK271.out; have hfz82 := blk_frozen BK271.out; have hcz83 := blk_cell BK267.out; have hfz83 := blk_frozen BK267.out))
        go_ret
        exact ⟨eq_, bl_⟩
      ·rw [if_neg c54] at H
       have c54b0 : (a0_0 == 3) = false := beq_eq_false_iff_ne.mpr c54
       have c54b1 : (a0_0 != 3) = true := bne_iff_ne.mpr c54
       by_cases c84 : a0_0 = 4
       ·rw [if_pos c84] at H
        have c84b0 : (a0_0 == 4) = true := beq_iff_eq.mpr c84
        have c84b1 : (a0_0 != 4) = false := bne_eq_false_iff_eq.mpr c84
        clear c84
        by_cases c85 : a0_3 = 0
        ·rw [if_pos c85] at H
         have c85b0 : (a0_3 == 0) = true := beq_iff_eq.mpr c85
         have c85b1 : (a0_3 != 0) = false := bne_eq_false_iff_eq.mpr c85
         clear c85
         obtain ⟨t276, A86, H⟩ := bindE_ H
         by_cases c87 : t276 = true
         ·subst c87
          replace H := ite_t_ H
          obtain ⟨t277, A88, H⟩ := bindE_ H
          obtain rfl := Option.some.inj H
          go_wp2_with (first | ((with_reducible refine gate_dst (N := 3) rfl ?_); refine box_event ?hg (N := 3) ?hd (cs := #[.int .i64 0, .int .i64 0]) (t := 27) ?hr ?_; (case hd => rfl); (case hg => rfl); (case hr => first | (go_simp; done) | (go_simp; rfl)); intro gb271 hg w89 hbox hb; have BK271 := Aside0.mk (hbox); have GW271 := gs_ hg; have GE271 := gs_ hg; replace HB := hbs_ hb; have NB267_271 := nl_ hg BK267; have NB271_267 := nr_ hg BK267; replace BK267 := bkb_ BK267 hb; clear hb hbox hg; have hnb90 := NB271_267.out; have hnc90 := NB267_271.out; have hcz91 := blk_cell BK271.out; have hfz91 := blk_frozen BK271.out; have hcz92 := blk_cell BK267.out; have hfz92 := blk_frozen BK267.out) | (go_at_call 103; (with_reducible refine (impl_RoleOk.calls a0_4 a0_5 true _ A86.out).mono ?_); rintro e w93 ⟨rfl, hb⟩; replace BK267 := Aside0.mk (blk_below (g := gb267) (o := .cells #[.int .i64 a0_0, .int .i64 a0_1, .int .i64 a0_2, .int .i64 a0_3, .int .i64 a0_4, .int .i64 a0_5, .int .i64 a0_6, .int .i64 a0_7, .int .i64 a0_8, .int .i64 a0_9] 46 (0, 0)) (bk_ BK267) hb); replace BK271 := Aside0.mk (blk_below (g := gb271) (o := .cells #[.int .i64 0, .int .i64 0] 27 (0, 0)) (bk_ BK271) hb); replace HB := hbs_ hb; clear hb; have hcz94 := blk_cell BK267.out; have hfz94 := blk_frozen BK267.out) | (go_at_call 103; (with_reducible refine (impl_RoleOk.calls a0_6 a0_7 t277 _ A88.out).mono ?_); rintro e w95 ⟨rfl, hb⟩; replace BK267 := bkb_ BK267 hb; replace BK271 := bkb_ BK271 hb; replace HB := hbs_ hb; clear hb))
          go_ret
          exact ⟨eq_, bl_⟩
         ·replace c87 := Bool.eq_false_iff.mpr c87
          subst c87
          replace H := ite_f_ H
          obtain rfl := Option.some.inj H
          go_wp2_with (first | ((with_reducible refine gate_dst (N := 3) rfl ?_); refine box_event ?hg (N := 3) ?hd (cs := #[.int .i64 0, .int .i64 0]) (t := 27) ?hr ?_; (case hd => rfl); (case hg => rfl); (case hr => first | (go_simp; done) | (go_simp; rfl)); intro gb271 hg w96 hbox hb; have BK271 := Aside0.mk (hbox); have GW271 := gs_ hg; have GE271 := gs_ hg; replace HB := hbs_ hb; have NB267_271 := nl_ hg BK267; have NB271_267 := nr_ hg BK267; replace BK267 := bkb_ BK267 hb; clear hb hbox hg; have hnb97 := NB271_267.out; have hnc97 := NB267_271.out; have hcz98 := blk_cell BK271.out; have hfz98 := blk_frozen BK271.out; have hcz99 := blk_cell BK267.out; have hfz99 := blk_frozen BK267.out) | (go_at_call 103; (with_reducible refine (impl_RoleOk.calls a0_4 a0_5 false _ A86.out).mono ?_); rintro e w100 ⟨rfl, hb⟩; replace BK267 := Aside0.mk (blk_below (g := gb267) (o := .cells #[.int .i64 a0_0, .int .i64 a0_1, .int .i64 a0_2, .int .i64 a0_3, .int .i64 a0_4, .int .i64 a0_5, .int .i64 a0_6, .int .i64 a0_7, .int .i64 a0_8, .int .i64 a0_9] 46 (0, 0)) (bk_ BK267) hb); replace BK271 := Aside0.mk (blk_below (g := gb271) (o := .cells #[.int .i64 0, .int .i64 0] 27 (0, 0)) (bk_ BK271) hb); replace HB := hbs_ hb; clear hb))
          go_ret
          exact ⟨eq_, bl_⟩
        ·rw [if_neg c85] at H
         have c85b0 : (a0_3 == 0) = false := beq_eq_false_iff_ne.mpr c85
         have c85b1 : (a0_3 != 0) = true := bne_iff_ne.mpr c85
         obtain rfl := Option.some.inj H
         go_wp2_with (first | ((with_reducible refine gate_dst (N := 3) rfl ?_); refine box_event ?hg (N := 3) ?hd (cs := #[.int .i64 0, .int .i64 0]) (t := 27) ?hr ?_; (case hd => rfl); (case hg => rfl); (case hr => first | (go_simp; done) | (go_simp; rfl)); intro gb271 hg w101 hbox hb; have BK271 := Aside0.mk (hbox); have GW271 := gs_ hg; have GE271 := gs_ hg; replace HB := hbs_ hb; have NB267_271 := nl_ hg BK267; have NB271_267 := nr_ hg BK267; replace BK267 := bkb_ BK267 hb; clear hb hbox hg; have hnb102 := NB271_267.out; have hnc102 := NB267_271.out; have hcz103 := blk_cell BK271.out; have hfz103 := blk_frozen BK271.out; have hcz104 := blk_cell BK267.out; have hfz104 := blk_frozen BK267.out))
         go_ret
         exact ⟨eq_, bl_⟩
       ·rw [if_neg c84] at H
        have c84b0 : (a0_0 == 4) = false := beq_eq_false_iff_ne.mpr c84
        have c84b1 : (a0_0 != 4) = true := bne_iff_ne.mpr c84
        obtain rfl := Option.some.inj H
        go_wp2_with (first | ((with_reducible refine gate_dst (N := 3) rfl ?_); refine box_event ?hg (N := 3) ?hd (cs := #[.int .i64 0, .int .i64 0]) (t := 27) ?hr ?_; (case hd => rfl); (case hg => rfl); (case hr => first | (go_simp; done) | (go_simp; rfl)); intro gb271 hg w105 hbox hb; have BK271 := Aside0.mk (hbox); have GW271 := gs_ hg; have GE271 := gs_ hg; replace HB := hbs_ hb; have NB267_271 := nl_ hg BK267; have NB271_267 := nr_ hg BK267; replace BK267 := bkb_ BK267 hb; clear hb hbox hg; have hnb106 := NB271_267.out; have hnc106 := NB267_271.out; have hcz107 := blk_cell BK271.out; have hfz107 := blk_frozen BK271.out; have hcz108 := blk_cell BK267.out; have hfz108 := blk_frozen BK267.out))
        go_ret
        exact ⟨eq_, bl_⟩
def impl_Fact_134.l0 : Nat → List (S29) → Int → Int → Int → Int → Int → Option (Int)
 | 0, _, _, _, _, _, _ => none
 | k + 1, x0, x7, x8, x279000, x279001, x279002 => if x8 < x7 then (if 0 ≤ x8 then (if x8 < (x0.length : Int) then (if ((x279000 == ((rd_T29 x0 x8).f0.f0) && (x279001 == ((rd_T29 x0 x8).f0.f1))) && (x279002 == ((rd_T29 x0 x8).f1))) = true then (some x8) else (impl_Fact_134.l0 k x0 x7 (wrap64 (x8 + 1)) x279000 x279001 x279002)) else (none)) else (none)) else (some (-1))
def impl_Fact_134.f (k : Nat) (l0 : List (S29)) (a1_0 : Int) (a1_1 : Int) (a1_2 : Int) : Option (Int) := impl_Fact_134.l0 k l0 (l0.length : Int) 0 a1_0 a1_1 a1_2
set_option maxHeartbeats 8000000 in
set_option maxRecDepth 100000 in
theorem impl_Fact_134.calls (k : Nat) (A0 : Option Addr) (c0 : Nat) (l0 : List (S29)) (a1_0 : Int) (a1_1 : Int) (a1_2 : Int) (r : Int) (w : World) (hr0 : Kd.C k29 w A0 l0.length l0) (hc0 : l0.length ≤ c0) (h : impl_Fact_134.f k l0 a1_0 a1_1 a1_2 = some r) :
  Calls Try.prog 134 #[.slice A0 l0.length c0, .agg #[.int .i64 a1_0, .int .i64 a1_1, .int .i64 a1_2]] w fun e w' => e = .returned (.int .i64 r) ∧ Below w.heap.size w w' := by
 have hu29 := Try.underlying29
 have HR0 := Aside0.mk hr0
 have HC0 := Aside0.mk hc0
 clear hr0 hc0
 have HB := Aside0.mk (Below.refl w.heap.size w)
 have H : (impl_Fact_134.l0 k l0 (l0.length : Int) 0 a1_0 a1_1 a1_2) = some r := h
 clear h
 have H' := Aside0.mk H
 clear H
 go_enter Try.func134, Try.ntmps134
 go_wp2_with (first | ((with_reducible refine gate_dst (N := 3) rfl ?_); refine box_event ?hg (N := 3) ?hd (cs := #[.int .i64 a1_0, .int .i64 a1_1, .int .i64 a1_2]) (t := 29) ?hr ?_; (case hd => rfl); (case hg => rfl); (case hr => first | (go_simp; done) | (go_simp; rfl)); intro gb278 hg w3 hbox hb; have BK278 := Aside0.mk (hbox); have GW278 := gs_ hg; have GE278 := gs_ hg; replace HB := hbs_ hb; clear hb hbox hg))
 repeat (go_quiet (first | ((with_reducible refine gate_dst (N := 3) rfl ?_); refine box_event ?hg (N := 3) ?hd (cs := #[.int .i64 a1_0, .int .i64 a1_1, .int .i64 a1_2]) (t := 29) ?hr ?_; (case hd => rfl); (case hg => rfl); (case hr => first | (go_simp; done) | (go_simp; rfl)); intro gb278 hg w3 hbox hb; have BK278 := Aside0.mk (hbox); have GW278 := gs_ hg; have GE278 := gs_ hg; replace HB := hbs_ hb; clear hb hbox hg)); try go_wp2_with (first | ((with_reducible refine gate_dst (N := 3) rfl ?_); refine box_event ?hg (N := 3) ?hd (cs := #[.int .i64 a1_0, .int .i64 a1_1, .int .i64 a1_2]) (t := 29) ?hr ?_; (case hd => rfl); (case hg => rfl); (case hr => first | (go_simp; done) | (go_simp; rfl)); intro gb278 hg w3 hbox hb; have BK278 := Aside0.mk (hbox); have GW278 := gs_ hg; have GE278 := gs_ hg; replace HB := hbs_ hb; clear hb hbox hg)))
 go_loopg [8] k (fun kq v8 w' => ∃ (x8_1 : Int), v8 = .int .i64 x8_1 ∧ Aside0 (impl_Fact_134.l0 kq l0 (l0.length : Int) x8_1 a1_0 a1_1 a1_2 = some r) ∧ Aside0 (kq ≤ k) ∧ Aside0 (w'.heap[gb278]? = some (.cells #[.int .i64 a1_0, .int .i64 a1_1, .int .i64 a1_2] 29 (0, 0))) ∧ Aside0 (Below w.heap.size w w'))
 case atStart => exact ⟨(0), rf_, H', ⟨Nat.le_refl _⟩, ⟨bk_ BK278⟩, ⟨bl_⟩⟩
 case round =>
  clear H'
  try clear c1
  try clear p2
  obtain ⟨x8_1, rfl, HA, HK1, BK278, HB⟩ := hrel
  cases gk with
  | zero => exact absurd HA.out (by simp [impl_Fact_134.l0])
  | succ k1 =>
   have H := HA.out
   clear HA
   simp only [impl_Fact_134.l0] at H
   by_cases c4 : x8_1 < (l0.length : Int)
   ·rw [if_pos c4] at H
    have c4b0 : decide (x8_1 < (l0.length : Int)) = true := decide_eq_true c4
    clear c4
    obtain ⟨c5b0, H⟩ := ifd_ H
    obtain ⟨c6b0, H⟩ := ifd_ H
    by_cases c7 : ((a1_0 == ((rd_T29 l0 x8_1).f0.f0) && (a1_1 == ((rd_T29 l0 x8_1).f0.f1))) && (a1_2 == ((rd_T29 l0 x8_1).f1))) = true
    ·rw [if_pos c7] at H
     have c7b0 : ((a1_0 == ((rd_T29 l0 x8_1).f0.f0) && (a1_1 == ((rd_T29 l0 x8_1).f0.f1))) && (a1_2 == ((rd_T29 l0 x8_1).f1))) = true := c7
     clear c7
     obtain rfl := Option.some.inj H
     have hcz8 := blk_cell BK278.out
     have hfz8 := blk_frozen BK278.out
     have p279 : 0 ≤ (x8_1 : Int) := od_
     have q279 : x8_1 < (l0.length : Int) := od_
     obtain ⟨ad279, e279, hx279_0, hx279_1, hx279_2⟩ := at_T29 (Kd.C_below HR0.out HB.out) x8_1 p279 q279
     cases e279
     replace p279 := eq_true p279
     replace q279 := eq_true q279
     go_wp2
     repeat (go_quiet (fail); try go_wp2)
     go_ret
     exact ⟨eq_, bl_⟩
    ·rw [if_neg c7] at H
     have c7b0 : ((a1_0 == ((rd_T29 l0 x8_1).f0.f0) && (a1_1 == ((rd_T29 l0 x8_1).f0.f1))) && (a1_2 == ((rd_T29 l0 x8_1).f1))) = false := by simpa using c7
     clear c7
     have H' := Aside0.mk H
     clear H
     have hcz9 := blk_cell BK278.out
     have hfz9 := blk_frozen BK278.out
     have p279 : 0 ≤ (x8_1 : Int) := od_
     have q279 : x8_1 < (l0.length : Int) := od_
     obtain ⟨ad279, e279, hx279_0, hx279_1, hx279_2⟩ := at_T29 (Kd.C_below HR0.out HB.out) x8_1 p279 q279
     cases e279
     replace p279 := eq_true p279
     replace q279 := eq_true q279
     go_wp2
     repeat (go_quiet (fail); try go_wp2)
     go_roundg k1
     case measure => have := HK1.out; omega
     case rel => exact ⟨(wrap64 (x8_1 + 1)), rf_, H', ⟨by have := HK1.out; omega⟩, ⟨bk_ BK278⟩, ⟨bl_⟩⟩
   ·rw [if_neg c4] at H
    have c4b0 : decide (x8_1 < (l0.length : Int)) = false := decide_eq_false c4
    clear c4
    obtain rfl := Option.some.inj H
    go_wp2
    repeat (go_quiet (fail); try go_wp2)
    go_ret
    exact ⟨eq_, bl_⟩
def impl_Fact_102.f (k : Nat) (l0 : List (S29)) (a1_0 : Int) (a1_1 : Int) (a1_2 : Int) : Option (Bool) := (impl_Fact_134.f k l0 a1_0 a1_1 a1_2).bind fun t281 => (some (decide (t281 ≥ 0)))
set_option maxHeartbeats 8000000 in
set_option maxRecDepth 100000 in
theorem impl_Fact_102.calls (k : Nat) (A0 : Option Addr) (c0 : Nat) (l0 : List (S29)) (a1_0 : Int) (a1_1 : Int) (a1_2 : Int) (r : Bool) (w : World) (hr0 : Kd.C k29 w A0 l0.length l0) (hc0 : l0.length ≤ c0) (h : impl_Fact_102.f k l0 a1_0 a1_1 a1_2 = some r) :
  Calls Try.prog 102 #[.slice A0 l0.length c0, .agg #[.int .i64 a1_0, .int .i64 a1_1, .int .i64 a1_2]] w fun e w' => e = .returned (.bool r) ∧ Below w.heap.size w w' := by
 have hu29 := Try.underlying29
 have HR0 := Aside0.mk hr0
 have HC0 := Aside0.mk hc0
 clear hr0 hc0
 have HB := Aside0.mk (Below.refl w.heap.size w)
 have H : ((impl_Fact_134.f k l0 a1_0 a1_1 a1_2).bind fun t281 => (some (decide (t281 ≥ 0)))) = some r := h
 clear h
 obtain ⟨t281, A3, H⟩ := bindE_ H
 obtain rfl := Option.some.inj H
 go_enter Try.func102, Try.ntmps102
 go_wp2_with (first | ((with_reducible refine gate_dst (N := 3) rfl ?_); refine box_event ?hg (N := 3) ?hd (cs := #[.int .i64 a1_0, .int .i64 a1_1, .int .i64 a1_2]) (t := 29) ?hr ?_; (case hd => rfl); (case hg => rfl); (case hr => first | (go_simp; done) | (go_simp; rfl)); intro gb280 hg w4 hbox hb; have BK280 := Aside0.mk (hbox); have GW280 := gs_ hg; have GE280 := gs_ hg; replace HB := hbs_ hb; clear hb hbox hg; have hcz5 := blk_cell BK280.out; have hfz5 := blk_frozen BK280.out) | ((with_reducible refine gate_callee (f := 134) rfl ?_); refine goesC_ (some 7) Try.func134 #[.slice A0 l0.length c0, .agg #[.int .i64 a1_0, .int .i64 a1_1, .int .i64 a1_2]] ?_; (with_reducible refine (impl_Fact_134.calls k _ _ l0 a1_0 a1_1 a1_2 t281 _ ?side1 ?side2 A3.out).mono ?_); (case side1 => repeat (first | exact (Kd.C_below HR0.out HB.out) | (with_reducible refine Kd.C_alloc ?_ _) | (with_reducible refine Kd.C_drewN ?_ _) | (with_reducible refine Kd.C_drew ?_))); (case side2 => exact HC0.out); rintro e w6 ⟨rfl, hb⟩; refine ⟨_, rfl, ?_⟩; replace BK280 := bkb_ BK280 hb; replace HB := hbs_ hb; clear hb))
 go_ret
 exact ⟨eq_, bl_⟩
-- NOT PRINTED: function 155 (impl_derive_1)
def impl_factOk.f (a0_0 : Int) (a0_1 : Int) (a0_2 : Int) : Option (Bool) := (impl_RoleOk.f a0_0 a0_1).bind fun t283 => (if t283 = true then ((impl_isPerson.f a0_2).bind fun t284 => (some t284)) else (some false))
set_option maxHeartbeats 8000000 in
set_option maxRecDepth 100000 in
theorem impl_factOk.calls (a0_0 : Int) (a0_1 : Int) (a0_2 : Int) (r : Bool) (w : World) (h : impl_factOk.f a0_0 a0_1 a0_2 = some r) :
  Calls Try.prog 169 #[.agg #[.int .i64 a0_0, .int .i64 a0_1, .int .i64 a0_2]] w fun e w' => e = .returned (.bool r) ∧ Below w.heap.size w w' := by
 have hu29 := Try.underlying29
 have hu27 := Try.underlying27
 have HB := Aside0.mk (Below.refl w.heap.size w)
 have H : ((impl_RoleOk.f a0_0 a0_1).bind fun t283 => (if t283 = true then ((impl_isPerson.f a0_2).bind fun t284 => (some t284)) else (some false))) = some r := h
 clear h
 obtain ⟨t283, A2, H⟩ := bindE_ H
 by_cases c3 : t283 = true
 ·subst c3
  replace H := ite_t_ H
  obtain ⟨t284, A4, H⟩ := bindE_ H
  obtain rfl := Option.some.inj H
  go_enter Try.func169, Try.ntmps169
  go_wp2_with (first | ((with_reducible refine gate_dst (N := 1) rfl ?_); refine box_event ?hg (N := 1) ?hd (cs := #[.int .i64 a0_0, .int .i64 a0_1, .int .i64 a0_2]) (t := 29) ?hr ?_; (case hd => rfl); (case hg => rfl); (case hr => first | (go_simp; done) | (go_simp; rfl)); intro gb282 hg w5 hbox hb; have BK282 := Aside0.mk (hbox); have GW282 := gs_ hg; have GE282 := gs_ hg; replace HB := hbs_ hb; clear hb hbox hg; have hcz6 := blk_cell BK282.out; have hfz6 := blk_frozen BK282.out) | ((with_reducible refine gate_callee (f := 103) rfl ?_); refine goesC_ (some 5) Try.func103 #[.agg #[.int .i64 a0_0, .int .i64 a0_1]] ?_; (with_reducible refine (impl_RoleOk.calls a0_0 a0_1 true _ A2.out).mono ?_); rintro e w7 ⟨rfl, hb⟩; refine ⟨_, rfl, ?_⟩; replace BK282 := bkb_ BK282 hb; replace HB := hbs_ hb; clear hb; have hcz8 := blk_cell BK282.out; have hfz8 := blk_frozen BK282.out) | (go_at_call 121; (with_reducible refine (impl_isPerson.calls a0_2 t284 _ A4.out).mono ?_); rintro e w' ⟨rfl, ⟨nd, rfl⟩⟩))
  go_ret
  exact ⟨eq_, bl_⟩
 ·replace c3 := Bool.eq_false_iff.mpr c3
  subst c3
  replace H := ite_f_ H
  obtain rfl := Option.some.inj H
  go_enter Try.func169, Try.ntmps169
  go_wp2_with (first | ((with_reducible refine gate_dst (N := 1) rfl ?_); refine box_event ?hg (N := 1) ?hd (cs := #[.int .i64 a0_0, .int .i64 a0_1, .int .i64 a0_2]) (t := 29) ?hr ?_; (case hd => rfl); (case hg => rfl); (case hr => first | (go_simp; done) | (go_simp; rfl)); intro gb282 hg w9 hbox hb; have BK282 := Aside0.mk (hbox); have GW282 := gs_ hg; have GE282 := gs_ hg; replace HB := hbs_ hb; clear hb hbox hg; have hcz10 := blk_cell BK282.out; have hfz10 := blk_frozen BK282.out) | ((with_reducible refine gate_callee (f := 103) rfl ?_); refine goesC_ (some 5) Try.func103 #[.agg #[.int .i64 a0_0, .int .i64 a0_1]] ?_; (with_reducible refine (impl_RoleOk.calls a0_0 a0_1 false _ A2.out).mono ?_); rintro e w11 ⟨rfl, hb⟩; refine ⟨_, rfl, ?_⟩; replace BK282 := bkb_ BK282 hb; replace HB := hbs_ hb; clear hb))
  go_ret
  exact ⟨eq_, bl_⟩
def impl_whoOf.l0 : Nat → List Int → List (S29) → Int → Int → Int → Int → Option (List Int)
 | 0, _, _, _, _, _, _ => none
 | k + 1, x5, x9, x10, x11, x286000, x286001 => if x11 < x10 then (if 0 ≤ x11 then (if x11 < (x9.length : Int) then (if (((rd_T29 x9 x11).f0.f0) == x286000 && (((rd_T29 x9 x11).f0.f1) == x286001)) = true then ((impl_factOk.f ((rd_T29 x9 x11).f0.f0) ((rd_T29 x9 x11).f0.f1) ((rd_T29 x9 x11).f1)).bind fun t291 => (if t291 = true then (if x5.length < 17592186044416 then (impl_whoOf.l0 k (x5 ++ [x11]) x9 x10 (wrap64 (x11 + 1)) x286000 x286001) else (none)) else (impl_whoOf.l0 k x5 x9 x10 (wrap64 (x11 + 1)) x286000 x286001))) else (impl_whoOf.l0 k x5 x9 x10 (wrap64 (x11 + 1)) x286000 x286001)) else (none)) else (none)) else (some x5)
def impl_whoOf.f (k : Nat) (l0 : List (S29)) (a1_0 : Int) (a1_1 : Int) : Option (List Int) := impl_whoOf.l0 k (([] : List Int)) l0 (l0.length : Int) 0 a1_0 a1_1
set_option maxHeartbeats 8000000 in
set_option maxRecDepth 100000 in
theorem impl_whoOf.calls (k : Nat) (A0 : Option Addr) (c0 : Nat) (l0 : List (S29)) (a1_0 : Int) (a1_1 : Int) (r : List Int) (w : World) (hr0 : Kd.C k29 w A0 l0.length l0) (hc0 : l0.length ≤ c0) (h : impl_whoOf.f k l0 a1_0 a1_1 = some r) :
  Calls Try.prog 156 #[.slice A0 l0.length c0, .agg #[.int .i64 a1_0, .int .i64 a1_1]] w fun e w' => ∃ v0_ : Value, e = .returned (v0_) ∧ Kd.R (Kd.int .i64) 3 w' w.heap.size (fun _ => True) v0_ r ∧ Below w.heap.size w w' := by
 have hu27 := Try.underlying27
 have hu29 := Try.underlying29
 have HR0 := Aside0.mk hr0
 have HC0 := Aside0.mk hc0
 clear hr0 hc0
 have HB := Aside0.mk (Below.refl w.heap.size w)
 have H : (impl_whoOf.l0 k (([] : List Int)) l0 (l0.length : Int) 0 a1_0 a1_1) = some r := h
 clear h
 obtain ⟨y286, hy286⟩ : ∃ y_ : List Int, y_ = (([] : List Int)) := ⟨_, rfl⟩
 replace H : (impl_whoOf.l0 k y286 l0 (l0.length : Int) 0 a1_0 a1_1) = some r := by first | (rw [hy286]; with_reducible exact H) | (have H2_ := (Option.bind_some _ _).symm.trans H; rw [hy286]; with_reducible exact H2_) | (have H2_ := (Option.bind_some _ _).symm.trans H; with_reducible exact H2_) | with_reducible exact H | (rw [hy286]; exact H) | exact H
 have Ny286 := Aside0.mk hy286
 clear hy286
 have H' := Aside0.mk H
 clear H
 go_enter Try.func156, Try.ntmps156
 go_wp2_with (first | ((with_reducible refine gate_dst (N := 3) rfl ?_); refine box_event ?hg (N := 3) ?hd (cs := #[.int .i64 a1_0, .int .i64 a1_1]) (t := 27) ?hr ?_; (case hd => rfl); (case hg => rfl); (case hr => first | (go_simp; done) | (go_simp; rfl)); intro gb285 hg w3 hbox hb; have BK285 := Aside0.mk (hbox); have GW285 := gs_ hg; have GE285 := gs_ hg; replace HB := hbs_ hb; clear hb hbox hg) | ((with_reducible refine gate_dst (N := 8) rfl ?_); refine Kd.R_lit (Kd.int .i64) _ 3 ?hg (N := 8) ?hd (xs := ([] : List Int)) (inner := []) (ok := fun _ => True) (okp := fun _ => True) ?hr ?hp (fun _ hk => hk) trivial (Below.refl _ _) (Nat.le_refl _) (by simp) ?_; (case hd => rfl); (case hg => rfl); (case hr => first | (go_simp; done) | (go_simp; rfl)); (case hp => exact (Reps.none _ _)); intro v287 w4 ho5 hb hg_ hnew_; clear hg_ hnew_; (first | rw [← Ny286.out] at ho5 | (simp only [Int.reduceToNat] at ho5; rw [← Ny286.out] at ho5)); have HO288 := Aside0.mk (Kd.R_lower ho5 bls_); replace BK285 := bkb_ BK285 hb; replace HB := hbs_ hb; clear hb ho5))
 go_loopg [5, 11] k (fun kq v5 v11 w' => ∃ (x5_1 : List Int) (x11_1 : Int), v11 = .int .i64 x11_1 ∧ Aside0 (impl_whoOf.l0 kq x5_1 l0 (l0.length : Int) x11_1 a1_0 a1_1 = some r) ∧ Aside0 (kq ≤ k) ∧ Aside0 (Kd.R (Kd.int .i64) 3 w' w.heap.size (fun _ => True) v5 x5_1) ∧ Aside0 (w'.heap[gb285]? = some (.cells #[.int .i64 a1_0, .int .i64 a1_1] 27 (0, 0))) ∧ Aside0 (Below w.heap.size w w'))
 case atStart => exact ⟨(y286), (0), rf_, H', ⟨Nat.le_refl _⟩, ⟨by (with_reducible repeat (first | apply Kd.R_alloc | apply Kd.R_drewN | apply Kd.R_drew)); exact HO288.out⟩, ⟨bk_ BK285⟩, ⟨bl_⟩⟩
 case round =>
  clear H'
  try clear c1
  try clear p2
  obtain ⟨x5_1, x11_1, rfl, HA, HK1, HO_5, BK285, HB⟩ := hrel
  cases gk with
  | zero => exact absurd HA.out (by simp [impl_whoOf.l0])
  | succ k1 =>
   have H := HA.out
   clear HA
   simp only [impl_whoOf.l0] at H
   by_cases c6 : x11_1 < (l0.length : Int)
   ·rw [if_pos c6] at H
    have c6b0 : decide (x11_1 < (l0.length : Int)) = true := decide_eq_true c6
    clear c6
    obtain ⟨c7b0, H⟩ := ifd_ H
    obtain ⟨c8b0, H⟩ := ifd_ H
    by_cases c9 : (((rd_T29 l0 x11_1).f0.f0) == a1_0 && (((rd_T29 l0 x11_1).f0.f1) == a1_1)) = true
    ·rw [if_pos c9] at H
     have c9b0 : (((rd_T29 l0 x11_1).f0.f0) == a1_0 && (((rd_T29 l0 x11_1).f0.f1) == a1_1)) = true := c9
     (try (have c9b1 : decide (((rd_T29 l0 x11_1).f0.f0) = a1_0 && (((rd_T29 l0 x11_1).f0.f1) == a1_1)) = true := by simpa using c9))
     (try (have c9b2 : (((rd_T29 l0 x11_1).f0.f0) == a1_0 && (((rd_T29 l0 x11_1).f0.f1) == a1_1)) = true := by simpa using c9))
     clear c9
     obtain ⟨t291, A10, H⟩ := bindE_ H
     by_cases c11 : t291 = true
     ·subst c11
      replace H := ite_t_ H
      obtain ⟨c12, H⟩ := ifn_ H
      have LMc12 := Aside0.mk c12
      clear c12
      obtain ⟨y292, hy292⟩ : ∃ y_ : List Int, y_ = (x5_1 ++ [x11_1]) := ⟨_, rfl⟩
      replace H : (impl_whoOf.l0 k1 y292 l0 (l0.length : Int) (wrap64 (x11_1 + 1)) a1_0 a1_1) = some r := by first | (rw [hy292]; with_reducible exact H) | (have H2_ := (Option.bind_some _ _).symm.trans H; rw [hy292]; with_reducible exact H2_) | (have H2_ := (Option.bind_some _ _).symm.trans H; with_reducible exact H2_) | with_reducible exact H | (rw [hy292]; exact H) | exact H
      have Ny292 := Aside0.mk hy292
      clear hy292
      have H' := Aside0.mk H
      clear H
      have p289 : 0 ≤ (x11_1 : Int) := od_
      have q289 : x11_1 < (l0.length : Int) := od_
      obtain ⟨ad289, e289, hx289_0, hx289_1, hx289_2⟩ := at_T29 (Kd.C_below HR0.out HB.out) x11_1 p289 q289
      cases e289
      replace p289 := eq_true p289
      replace q289 := eq_true q289
      go_wp2_with (first | ((with_reducible refine gate_dst (N := 7) rfl ?_); refine box_event ?hg (N := 7) ?hd (cs := #[.int .i64 0, .int .i64 0, .int .i64 0]) (t := 29) ?hr ?_; (case hd => rfl); (case hg => rfl); (case hr => first | (go_simp; done) | (go_simp; rfl)); intro gb290 hg w13 hbox hb; replace HO_5 := hob_ HO_5 hb; have BK290 := Aside0.mk (hbox); have GW290 := gs_ hg; have GE290 := gs_ hg; replace HB := hbs_ hb; have NB285_290 := nl_ hg BK285; have NB290_285 := nr_ hg BK285; replace BK285 := bkb_ BK285 hb; clear hb hbox hg; have hnb14 := NB290_285.out; have hnc14 := NB285_290.out; have hcz15 := blk_cell BK290.out; have hfz15 := blk_frozen BK290.out; have hcz16 := blk_cell BK285.out; have hfz16 := blk_frozen BK285.out) | (go_at_call 169; (with_reducible refine (impl_factOk.calls ((rd_T29 l0 x11_1).f0.f0) ((rd_T29 l0 x11_1).f0.f1) ((rd_T29 l0 x11_1).f1) true _ A10.out).mono ?_); rintro e w17 ⟨rfl, hb⟩; replace HO_5 := Aside0.mk (Kd.R_below (by (with_reducible repeat (first | apply Kd.R_alloc | apply Kd.R_drewN | apply Kd.R_drew)); exact (Kd.R_mono (Kd.R_far (p := ⟨gb290, 2, none⟩) (Kd.R_far (p := ⟨gb290, 1, none⟩) (Kd.R_far (p := ⟨gb290, 0, none⟩) (Kd.R_types HO_5.out BK290.out (by decide)) (fun _ hk => hk.2) (.int .i64 ((rd_T29 l0 x11_1).f0.f0))) (fun _ hk => hk.2) (.int .i64 ((rd_T29 l0 x11_1).f0.f1))) (fun _ hk => hk.2) (.int .i64 ((rd_T29 l0 x11_1).f1))) (fun _ h_ => h_.1))) hb); replace BK285 := Aside0.mk (blk_below (g := gb285) (o := .cells #[.int .i64 a1_0, .int .i64 a1_1] 27 (0, 0)) (bk_ BK285) hb); replace BK290 := Aside0.mk (blk_below (g := gb290) (o := .cells #[.int .i64 ((rd_T29 l0 x11_1).f0.f0), .int .i64 ((rd_T29 l0 x11_1).f0.f1), .int .i64 ((rd_T29 l0 x11_1).f1)] 29 (0, 0)) (bk_ BK290) hb); replace HB := hbs_ hb; clear hb) | ((with_reducible refine gate_builtin (b := .append) (xs := #[.tmp 24, .tmp 26]) rfl ?_); at_builtin; refine Kd.R_append (Kd.int .i64) (w0 := w) w.heap.size rfl (.tmp 24) (.tmp 26) 32 3 (.int .i64 0) 8 rfl Try.underlying32 info3 rfl (by decide) (by omega) u5 x5_1 x11_1 [.int .i64 x11_1] (fun _ => True) (fun _ => False) rfl rfl ?aP (fun _ hk => hk.elim) ?aF ?aO ?aB ?aS ?aL ?_; (case aP => exact rfl); (case aB => exact bl_); (case aF => exact (fun _ _ => trivial)); (case aO => exact (by (with_reducible repeat (first | apply Kd.R_alloc | apply Kd.R_drewN | apply Kd.R_drew)); exact HO_5.out)); (case aS => exact bls_); (case aL => have := LMc12.out; omega); intro v293 w18 ho hb hg hat; rw [← Ny292.out] at ho; replace BK285 := Aside0.mk (blk_grown (g := gb285) (o := .cells #[.int .i64 a1_0, .int .i64 a1_1] 27 (0, 0)) (bk_ BK285) hg (Kd.R_ne HO_5.out BK285.out (by decide))); replace BK290 := Aside0.mk (blk_grown (g := gb290) (o := .cells #[.int .i64 ((rd_T29 l0 x11_1).f0.f0), .int .i64 ((rd_T29 l0 x11_1).f0.f1), .int .i64 ((rd_T29 l0 x11_1).f1)] 29 (0, 0)) (bk_ BK290) hg (Kd.R_ne HO_5.out BK290.out (by decide))); replace HB := Aside0.mk (hb); have HO294 := Aside0.mk (ho); clear HO_5; clear ho hb hg hat))
      go_roundg k1
      case measure => have := HK1.out; omega
      case rel => exact ⟨(y292), (wrap64 (x11_1 + 1)), rf_, H', ⟨by have := HK1.out; omega⟩, ⟨by (with_reducible repeat (first | apply Kd.R_alloc | apply Kd.R_drewN | apply Kd.R_drew)); exact HO294.out⟩, ⟨bk_ BK285⟩, ⟨bl_⟩⟩
     ·replace c11 := Bool.eq_false_iff.mpr c11
      subst c11
      replace H := ite_f_ H
      have H' := Aside0.mk H
      clear H
      have p289 : 0 ≤ (x11_1 : Int) := od_
      have q289 : x11_1 < (l0.length : Int) := od_
      obtain ⟨ad289, e289, hx289_0, hx289_1, hx289_2⟩ := at_T29 (Kd.C_below HR0.out HB.out) x11_1 p289 q289
      cases e289
      replace p289 := eq_true p289
      replace q289 := eq_true q289
      go_wp2_with (first | ((with_reducible refine gate_dst (N := 7) rfl ?_); refine box_event ?hg (N := 7) ?hd (cs := #[.int .i64 0, .int .i64 0, .int .i64 0]) (t := 29) ?hr ?_; (case hd => rfl); (case hg => rfl); (case hr => first | (go_simp; done) | (go_simp; rfl)); intro gb290 hg w19 hbox hb; replace HO_5 := hob_ HO_5 hb; have BK290 := Aside0.mk (hbox); have GW290 := gs_ hg; have GE290 := gs_ hg; replace HB := hbs_ hb; have NB285_290 := nl_ hg BK285; have NB290_285 := nr_ hg BK285; replace BK285 := bkb_ BK285 hb; clear hb hbox hg; have hnb20 := NB290_285.out; have hnc20 := NB285_290.out; have hcz21 := blk_cell BK290.out; have hfz21 := blk_frozen BK290.out; have hcz22 := blk_cell BK285.out; have hfz22 := blk_frozen BK285.out) | (go_at_call 169; (with_reducible refine (impl_factOk.calls ((rd_T29 l0 x11_1).f0.f0) ((rd_T29 l0 x11_1).f0.f1) ((rd_T29 l0 x11_1).f1) false _ A10.out).mono ?_); rintro e w23 ⟨rfl, hb⟩; replace HO_5 := Aside0.mk (Kd.R_below (by (with_reducible repeat (first | apply Kd.R_alloc | apply Kd.R_drewN | apply Kd.R_drew)); exact (Kd.R_mono (Kd.R_far (p := ⟨gb290, 2, none⟩) (Kd.R_far (p := ⟨gb290, 1, none⟩) (Kd.R_far (p := ⟨gb290, 0, none⟩) (Kd.R_types HO_5.out BK290.out (by decide)) (fun _ hk => hk.2) (.int .i64 ((rd_T29 l0 x11_1).f0.f0))) (fun _ hk => hk.2) (.int .i64 ((rd_T29 l0 x11_1).f0.f1))) (fun _ hk => hk.2) (.int .i64 ((rd_T29 l0 x11_1).f1))) (fun _ h_ => h_.1))) hb); replace BK285 := Aside0.mk (blk_below (g := gb285) (o := .cells #[.int .i64 a1_0, .int .i64 a1_1] 27 (0, 0)) (bk_ BK285) hb); replace BK290 := Aside0.mk (blk_below (g := gb290) (o := .cells #[.int .i64 ((rd_T29 l0 x11_1).f0.f0), .int .i64 ((rd_T29 l0 x11_1).f0.f1), .int .i64 ((rd_T29 l0 x11_1).f1)] 29 (0, 0)) (bk_ BK290) hb); replace HB := hbs_ hb; clear hb))
      go_roundg k1
      case measure => have := HK1.out; omega
      case rel => exact ⟨(x5_1), (wrap64 (x11_1 + 1)), rf_, H', ⟨by have := HK1.out; omega⟩, ⟨by (with_reducible repeat (first | apply Kd.R_alloc | apply Kd.R_drewN | apply Kd.R_drew)); exact HO_5.out⟩, ⟨bk_ BK285⟩, ⟨bl_⟩⟩
    ·rw [if_neg c9] at H
     have c9b0 : (((rd_T29 l0 x11_1).f0.f0) == a1_0 && (((rd_T29 l0 x11_1).f0.f1) == a1_1)) = false := by simpa using c9
     (try (have c9b1 : decide (((rd_T29 l0 x11_1).f0.f0) = a1_0 && (((rd_T29 l0 x11_1).f0.f1) == a1_1)) = false := by simpa using c9))
     (try (have c9b2 : (((rd_T29 l0 x11_1).f0.f0) == a1_0 && (((rd_T29 l0 x11_1).f0.f1) == a1_1)) = false := by simpa using c9))
     (try (have c9b3 : ¬ (((rd_T29 l0 x11_1).f0.f0) = a1_0 && (((rd_T29 l0 x11_1).f0.f1) == a1_1)) := by simpa using c9))
     clear c9
     have H' := Aside0.mk H
     clear H
     have p289 : 0 ≤ (x11_1 : Int) := od_
     have q289 : x11_1 < (l0.length : Int) := od_
     obtain ⟨ad289, e289, hx289_0, hx289_1, hx289_2⟩ := at_T29 (Kd.C_below HR0.out HB.out) x11_1 p289 q289
     cases e289
     replace p289 := eq_true p289
     replace q289 := eq_true q289
     go_wp2_with (first | ((with_reducible refine gate_dst (N := 7) rfl ?_); refine box_event ?hg (N := 7) ?hd (cs := #[.int .i64 0, .int .i64 0, .int .i64 0]) (t := 29) ?hr ?_; (case hd => rfl); (case hg => rfl); (case hr => first | (go_simp; done) | (go_simp; rfl)); intro gb290 hg w24 hbox hb; replace HO_5 := hob_ HO_5 hb; have BK290 := Aside0.mk (hbox); have GW290 := gs_ hg; have GE290 := gs_ hg; replace HB := hbs_ hb; have NB285_290 := nl_ hg BK285; have NB290_285 := nr_ hg BK285; replace BK285 := bkb_ BK285 hb; clear hb hbox hg; have hnb25 := NB290_285.out; have hnc25 := NB285_290.out; have hcz26 := blk_cell BK290.out; have hfz26 := blk_frozen BK290.out; have hcz27 := blk_cell BK285.out; have hfz27 := blk_frozen BK285.out))
     go_roundg k1
     case measure => have := HK1.out; omega
     case rel => exact ⟨(x5_1), (wrap64 (x11_1 + 1)), rf_, H', ⟨by have := HK1.out; omega⟩, ⟨by (with_reducible repeat (first | apply Kd.R_alloc | apply Kd.R_drewN | apply Kd.R_drew)); exact Kd.R_mono (Kd.R_far (p := ⟨gb290, 2, none⟩) (Kd.R_far (p := ⟨gb290, 1, none⟩) (Kd.R_far (p := ⟨gb290, 0, none⟩) (Kd.R_types HO_5.out BK290.out (by decide)) (fun _ hk => hk.2) (.int .i64 ((rd_T29 l0 x11_1).f0.f0))) (fun _ hk => hk.2) (.int .i64 ((rd_T29 l0 x11_1).f0.f1))) (fun _ hk => hk.2) (.int .i64 ((rd_T29 l0 x11_1).f1))) (fun _ hk => trivial)⟩, ⟨bk_ BK285⟩, ⟨bl_⟩⟩
   ·rw [if_neg c6] at H
    have c6b0 : decide (x11_1 < (l0.length : Int)) = false := decide_eq_false c6
    clear c6
    obtain rfl := Option.some.inj H
    go_wp2
    go_ret
    exact ⟨_, eq_, by (with_reducible repeat (first | apply Kd.R_alloc | apply Kd.R_drewN | apply Kd.R_drew)); exact HO_5.out, bl_⟩
end Go.Proofs.Ytppdmcimddhbaaa.PG
