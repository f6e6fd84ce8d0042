import Derived.Test.YtkimdmdkldlhpaaKCFh
import Derived.Test.YtkimdmdkldlhpaaKCPAx7
-- printed by wip/tools
namespace Go.Proofs.Ytkimdmdkldlhpaa.PA
open Go.RowKit Go.Proofs.YtkimdmdkldlhpaaW.PrintWords Go.Proofs.YtkimdmdkldlhpaaW.PrintLast Go.Proofs.YtkimdmdkldlhpaaW.PrintMore
attribute [local go_sem] max2_int min2_int max_two min_two max_three min_three max_four min_four
set_option linter.unusedVariables false
set_option linter.unusedSimpArgs false
def impl_HereOf.l0 : Nat → List Int → List (S42) → Int → Int → Option (List Int)
 | 0, _, _, _, _ => none
 | k + 1, x3, x8, x9, x10 => if x10 < x9 then (if 0 ≤ x10 then (if x10 < (x8.length : Int) then (if (rd_T42 x8 x10).f1 = true then (if x3.length < 17592186044416 then (impl_HereOf.l0 k (x3 ++ [(rd_T42 x8 x10).f0]) x8 x9 (wrap64 (x10 + 1))) else (none)) else (impl_HereOf.l0 k x3 x8 x9 (wrap64 (x10 + 1)))) else (none)) else (none)) else ((slices_Sort_int_int.f x3).bind fun t357 => (some t357))
def impl_HereOf.f (k : Nat) (l0_0 : List (S42)) : Option (List Int) := impl_HereOf.l0 k (([] : List Int)) l0_0 (l0_0.length : Int) 0
set_option maxHeartbeats 8000000 in
set_option maxRecDepth 100000 in
theorem impl_HereOf.calls (k : Nat) (A0_0 : Option Addr) (c0_0 : Nat) (l0_0 : List (S42)) (r : List Int) (w : World) (hr0_0 : Kd.C k42 w A0_0 l0_0.length l0_0) (hc0_0 : l0_0.length ≤ c0_0) (h : impl_HereOf.f k l0_0 = some r) :
  Calls Try.prog 20 #[.agg #[.slice A0_0 l0_0.length c0_0]] w fun e w' => ∃ v0_ : Value, e = .returned (v0_) ∧ Kd.R (Kd.int .i64) 3 w' w.heap.size (fun _ => True) v0_ r ∧ Below w.heap.size w w' := by
 have hu29 := Try.underlying29
 have hu42 := Try.underlying42
 have HR0_0 := aa_ hr0_0
 have HC0_0 := aa_ hc0_0
 clear hr0_0 hc0_0
 have HB := aa_ (Below.refl w.heap.size w)
 have H : (impl_HereOf.l0 k (([] : List Int)) l0_0 (l0_0.length : Int) 0) = some r := h
 clear h
 obtain ⟨y349, hy349⟩ : ∃ y_ : List Int, y_ = (([] : List Int)) := ⟨_, rfl⟩
 replace H : (impl_HereOf.l0 k y349 l0_0 (l0_0.length : Int) 0) = some r := rh_ hy349 H
 have Ny349 := aa_ hy349
 clear hy349
 have H' := aa_ H
 clear H
 go_enter Try.func20, Try.ntmps20
 go_wp2_with (first | ((with_reducible refine gD_ 1 rfl ?_); refine bx_ (N := 1) (cs := #[.slice A0_0 l0_0.length c0_0]) (t := 29) ?_; intro gb348 hg w2 hbox hb; have BK348 := aa_ (hbox); have GW348 := gs_ hg; have GE348 := gs_ hg; replace HB := hbs_ hb; clear hb hbox hg) | ((with_reducible refine gD_ 6 rfl ?_); refine Kd.R_lit (Kd.int .i64) _ 3 ?hg (N := 6) ?hd (xs := ([] : List Int)) (inner := []) (ok := fun _ => True) (okp := fun _ => True) ?hr ?hp (fun _ hk => hk) trivial (Below.refl _ _) (Nat.le_refl _) (by simp) ?_; (case hd => rfl); (case hg => rfl); (case hr => first | (go_simp; done) | (go_simp; rfl)); (case hp => exact (Reps.none _ _)); intro v350 w3 ho4 hb hg_ hnew_; clear hg_ hnew_; (first | rw [← Ny349.out] at ho4 | (simp only [Int.reduceToNat] at ho4; rw [← Ny349.out] at ho4)); have HO351 := aa_ (Kd.R_lower ho4 bls_); replace BK348 := bkb_ BK348 hb; replace HB := hbs_ hb; clear hb ho4; obtain ⟨hcz5, hfz5⟩ := bcf_ BK348))
 go_loopg [3, 10] k (fun kq v3 v10 w' => ∃ (x3_1 : List Int) (x10_1 : Int), v10 = .int .i64 x10_1 ∧ Aside0 (impl_HereOf.l0 kq x3_1 l0_0 (l0_0.length : Int) x10_1 = some r) ∧ Aside0 (kq ≤ k) ∧ Aside0 (Kd.R (Kd.int .i64) 3 w' w.heap.size (fun _ => True) v3 x3_1) ∧ Aside0 (w'.heap[gb348]? = some (.cells #[(.slice A0_0 l0_0.length c0_0)] 29 (0, 0))) ∧ Aside0 (Below w.heap.size w w'))
 case atStart => exact ⟨(y349), (0), rf_, H', ⟨Nat.le_refl _⟩, ⟨rr_ HO351⟩, ⟨bk_ BK348⟩, ⟨bl_⟩⟩
 case round =>
  clear H'
  try clear c2
  try clear p2
  try clear hcz5
  try clear hfz5
  obtain ⟨x3_1, x10_1, rfl, HA, HK1, HO_3, BK348, HB⟩ := hrel
  cases gk with
  | zero => exact absurd HA.out (by simp [impl_HereOf.l0])
  | succ k1 =>
   have H := HA.out
   clear HA
   simp only [impl_HereOf.l0] at H
   by_cases c6 : x10_1 < (l0_0.length : Int)
   ·rw [if_pos c6] at H
    have c6b0 : decide (x10_1 < (l0_0.length : Int)) = true := decide_eq_true c6
    clear c6
    obtain ⟨c7b0, H⟩ := ifd_ H
    obtain ⟨c8b0, H⟩ := ifd_ H
    obtain ⟨bq9, hbq9⟩ : ∃ b_ : Bool, b_ = ((rd_T42 l0_0 x10_1).f1) := ⟨_, rfl⟩
    replace H : (if bq9 = true then (if x3_1.length < 17592186044416 then (impl_HereOf.l0 k1 (x3_1 ++ [(rd_T42 l0_0 x10_1).f0]) l0_0 (l0_0.length : Int) (wrap64 (x10_1 + 1))) else (none)) else (impl_HereOf.l0 k1 x3_1 l0_0 (l0_0.length : Int) (wrap64 (x10_1 + 1)))) = some r := by rw [← hbq9] at H; exact H
    have Nbq9 := aa_ hbq9
    clear hbq9
    by_cases c10 : bq9 = true
    ·subst c10
     replace H := ite_t_ H
     obtain ⟨c11, H⟩ := ifn_ H
     have LMc11 := aa_ c11
     clear c11
     obtain ⟨y354, hy354⟩ : ∃ y_ : List Int, y_ = (x3_1 ++ [(rd_T42 l0_0 x10_1).f0]) := ⟨_, rfl⟩
     replace H : (impl_HereOf.l0 k1 y354 l0_0 (l0_0.length : Int) (wrap64 (x10_1 + 1))) = some r := rh_ hy354 H
     have Ny354 := aa_ hy354
     clear hy354
     have H' := aa_ H
     clear H
     have p352 : 0 ≤ (x10_1 : Int) := od_
     have q352 : x10_1 < (l0_0.length : Int) := od_
     obtain ⟨ad352, A352_3, c352_3, A352_4, c352_4, A352_5, c352_5, e352, hx352_0, hx352_1, hx352_2, hx352_3, hx352_4, hx352_5, hl352_3, hi352_3, hl352_4, hi352_4, hl352_5, hi352_5⟩ := at_T42 HR0_0.out x10_1 p352 q352
     (try rw [← Nbq9.out] at hx352_1)
     cases e352
     replace hx352_0 := cb_ HB hx352_0
     replace hx352_1 := cb_ HB hx352_1
     replace hx352_2 := cb_ HB hx352_2
     replace hx352_3 := cb_ HB hx352_3
     replace hx352_4 := cb_ HB hx352_4
     replace hx352_5 := cb_ HB hx352_5
     have HR352_3 := aa_ hi352_3
     have HC352_3 := aa_ hl352_3
     clear hi352_3 hl352_3
     have HR352_4 := aa_ hi352_4
     have HC352_4 := aa_ hl352_4
     clear hi352_4 hl352_4
     have HR352_5 := aa_ hi352_5
     have HC352_5 := aa_ hl352_5
     clear hi352_5 hl352_5
     replace p352 := eq_true p352
     replace q352 := eq_true q352
     go_wp2_with (first | ((with_reducible refine gD_ 5 rfl ?_); refine bx_ (N := 5) (cs := #[.int .i64 0, .bool false, .int .i64 0, .slice none 0 0, .slice none 0 0, .slice none 0 0]) (t := 42) ?_; intro gb353 hg w12 hbox hb; replace HO_3 := hob_ HO_3 hb; have BK353 := aa_ (hbox); have GW353 := gs_ hg; have GE353 := gs_ hg; replace HB := hbs_ hb; have NB348_353 := nl_ hg BK348; have NB353_348 := nr_ hg BK348; replace BK348 := bkb_ BK348 hb; clear hb hbox hg; have hnb13 := NB353_348.out; have hnc13 := NB348_353.out; obtain ⟨hcz14, hfz14⟩ := bcf_ BK353) | ((with_reducible refine gate_builtin (b := .append) (xs := #[.tmp 16, .tmp 19]) rfl ?_); at_builtin; refine Kd.R_append (Kd.int .i64) (w0 := w) w.heap.size rfl (.tmp 16) (.tmp 19) 34 3 (.int .i64 0) 8 rfl Try.underlying34 info3 rfl (by decide) (by omega) u3 x3_1 ((rd_T42 l0_0 x10_1).f0) [.int .i64 ((rd_T42 l0_0 x10_1).f0)] (fun _ => True) (fun _ => False) rfl (by first | (go_simp; done) | (go_simp; rfl)) ?aP (fun _ hk => hk.elim) ?aF ?aO ?aB ?aS ?aL ?_; (case aP => exact rfl); (case aB => exact bl_); (case aF => exact (fun _ _ => trivial)); (case aO => exact (by (with_reducible repeat (first | apply Kd.R_alloc | apply Kd.R_drewN | apply Kd.R_drew)); exact Kd.R_mono (fr6_ (Kd.R_types HO_3.out BK353.out (by decide)) (fun _ hk => hk.2)) (fun _ hk => trivial))); (case aS => exact bls_); (case aL => have := LMc11.out; omega); intro v355 w15 ho hb hg hat; rw [← Ny354.out] at ho; replace BK348 := aa_ (blk_grown (g := gb348) (o := .cells #[.slice (some ad352) l0_0.length c0_0] 29 (0, 0)) (bk_ BK348) hg (Kd.R_ne HO_3.out BK348.out (by decide))); replace BK353 := aa_ (blk_grown (g := gb353) (o := .cells #[.int .i64 ((rd_T42 l0_0 x10_1).f0), .bool true, .int .i64 ((rd_T42 l0_0 x10_1).f2), .slice A352_3 ((rd_T42 l0_0 x10_1).f3).length c352_3, .slice A352_4 ((rd_T42 l0_0 x10_1).f4).length c352_4, .slice A352_5 ((rd_T42 l0_0 x10_1).f5).length c352_5] 42 (0, 0)) (bk_ BK353) hg (Kd.R_ne HO_3.out BK353.out (by decide))); replace HB := aa_ (hb); have HO356 := aa_ (ho); clear HO_3; clear ho hb hg hat))
     go_roundg k1
     case measure => have := HK1.out; omega
     case rel => exact ⟨(y354), (wrap64 (x10_1 + 1)), rf_, H', ⟨by have := HK1.out; omega⟩, ⟨rr_ HO356⟩, ⟨bk_ BK348⟩, ⟨bl_⟩⟩
    ·replace c10 := Bool.eq_false_iff.mpr c10
     subst c10
     replace H := ite_f_ H
     have H' := aa_ H
     clear H
     have p352 : 0 ≤ (x10_1 : Int) := od_
     have q352 : x10_1 < (l0_0.length : Int) := od_
     obtain ⟨ad352, A352_3, c352_3, A352_4, c352_4, A352_5, c352_5, e352, hx352_0, hx352_1, hx352_2, hx352_3, hx352_4, hx352_5, hl352_3, hi352_3, hl352_4, hi352_4, hl352_5, hi352_5⟩ := at_T42 HR0_0.out x10_1 p352 q352
     (try rw [← Nbq9.out] at hx352_1)
     cases e352
     replace hx352_0 := cb_ HB hx352_0
     replace hx352_1 := cb_ HB hx352_1
     replace hx352_2 := cb_ HB hx352_2
     replace hx352_3 := cb_ HB hx352_3
     replace hx352_4 := cb_ HB hx352_4
     replace hx352_5 := cb_ HB hx352_5
     have HR352_3 := aa_ hi352_3
     have HC352_3 := aa_ hl352_3
     clear hi352_3 hl352_3
     have HR352_4 := aa_ hi352_4
     have HC352_4 := aa_ hl352_4
     clear hi352_4 hl352_4
     have HR352_5 := aa_ hi352_5
     have HC352_5 := aa_ hl352_5
     clear hi352_5 hl352_5
     replace p352 := eq_true p352
     replace q352 := eq_true q352
     go_wp2_with (first | ((with_reducible refine gD_ 5 rfl ?_); refine bx_ (N := 5) (cs := #[.int .i64 0, .bool false, .int .i64 0, .slice none 0 0, .slice none 0 0, .slice none 0 0]) (t := 42) ?_; intro gb353 hg w16 hbox hb; replace HO_3 := hob_ HO_3 hb; have BK353 := aa_ (hbox); have GW353 := gs_ hg; have GE353 := gs_ hg; replace HB := hbs_ hb; have NB348_353 := nl_ hg BK348; have NB353_348 := nr_ hg BK348; replace BK348 := bkb_ BK348 hb; clear hb hbox hg; have hnb17 := NB353_348.out; have hnc17 := NB348_353.out; obtain ⟨hcz18, hfz18⟩ := bcf_ BK353))
     go_roundg k1
     case measure => have := HK1.out; omega
     case rel => exact ⟨(x3_1), (wrap64 (x10_1 + 1)), rf_, H', ⟨by have := HK1.out; omega⟩, ⟨by (with_reducible repeat (first | apply Kd.R_alloc | apply Kd.R_drewN | apply Kd.R_drew)); exact Kd.R_mono (fr6_ (Kd.R_types HO_3.out BK353.out (by decide)) (fun _ hk => hk.2)) (fun _ hk => trivial)⟩, ⟨bk_ BK348⟩, ⟨bl_⟩⟩
   ·rw [if_neg c6] at H
    have c6b0 : decide (x10_1 < (l0_0.length : Int)) = false := decide_eq_false c6
    clear c6
    obtain ⟨t357, A19, H⟩ := bindE_ H
    obtain rfl := Option.some.inj H
    obtain ⟨Ao20, co20, eo20⟩ := Kd.R_slice HO_3.out
    subst eo20
    go_wp2_with (first | ((with_reducible refine gC_ 35 rfl ?_); refine goesC_ (some 23) Try.func35 #[.slice Ao20 x3_1.length co20] ?_; (with_reducible refine (slices_Sort_int_int.calls (fun k_ => some k_ = (.slice Ao20 x3_1.length co20 : Value).ownBlock) (.slice Ao20 x3_1.length co20) x3_1 t357 w _ ?side1 ?side2 A19.out).mono ?_); (case side1 => repeat (first | (with_reducible first | exact HB.out | apply below_alloc | apply pw_below_drewN | apply below_drew1 | refine below_set ?_ GE348.out) | exact HB.out)); (case side2 => exact Kd.R_tight rfl HO_3.out); rintro e w21 ⟨rfl, hy0, hb, hkp⟩; refine ⟨_, rfl, ?_⟩; replace BK348 := aa_ (blk_kept (bk_ BK348) hkp (fun hs_ => (fun e_ => (Kd.R_ne HO_3.out BK348.out (by decide)) e_) hs_)); replace HO_3 := aa_ (Kd.R_reok rfl hy0 (fun k_ e_ => HO_3.out.1 k_ e_)); replace HB := aa_ (hb); (try clear hb hkp hy0)))
    go_ret
    exact ⟨_, eq_, by (with_reducible repeat (first | apply Kd.R_alloc | apply Kd.R_drewN | apply Kd.R_drew)); exact HO_3.out, bl_⟩
def impl_Shelf.l0 : Nat → List (S61) → (S61 → Option Bool) → Int → Int → Option (Int)
 | 0, _, _, _, _ => none
 | k + 1, x0, x1, x7, x8 => if x8 < x7 then (if 0 ≤ x8 then (if x8 < (x0.length : Int) then ((x1 (⟨(rd_T61 x0 x8).f0, (rd_T61 x0 x8).f1⟩ : S61)).bind fun t359 => (if t359 = true then (some x8) else (impl_Shelf.l0 k x0 x1 x7 (wrap64 (x8 + 1))))) else (none)) else (none)) else (some (-1))
def impl_Shelf.f (k : Nat) (l0 : List (S61)) (a1 : (S61 → Option Bool)) : Option (Int) := impl_Shelf.l0 k l0 a1 (l0.length : Int) 0
set_option maxHeartbeats 8000000 in
set_option maxRecDepth 100000 in
theorem impl_Shelf.calls (k : Nat) (A0 : Option Addr) (c0 : Nat) (l0 : List (S61)) (a1 : (S61 → Option Bool)) (na1_ : Nat) (ga1_ : Array Value) (r : Int) (w : World) (hr0 : Kd.C k61 w A0 l0.length l0) (hc0 : l0.length ≤ c0) (hq1 : ∀ W_, Below w.heap.size w W_ → FnOk61 a1 na1_ ga1_ W_) (h : impl_Shelf.f k l0 a1 = some r) :
  Calls Try.prog 39 #[.slice A0 l0.length c0, .func (.func na1_) #[] ga1_] w fun e w' => e = .returned (.int .i64 r) ∧ Below w.heap.size w w' := by
 have hu61 := Try.underlying61
 have HR0 := aa_ hr0
 have HC0 := aa_ hc0
 clear hr0 hc0
 have HFN1 := aa_ hq1
 have eg1 := (hq1 w (Below.refl _ _)).1
 clear hq1
 have HB := aa_ (Below.refl w.heap.size w)
 have H : (impl_Shelf.l0 k l0 a1 (l0.length : Int) 0) = some r := h
 clear h
 have H' := aa_ H
 clear H
 go_enter Try.func39, Try.ntmps39
 go_wp2
 go_loopg [8] k (fun kq v8 w' => ∃ (x8_1 : Int), v8 = .int .i64 x8_1 ∧ Aside0 (impl_Shelf.l0 kq l0 a1 (l0.length : Int) x8_1 = some r) ∧ Aside0 (kq ≤ k) ∧ Aside0 (Below w.heap.size w w'))
 case atStart => exact ⟨(0), rf_, H', ⟨Nat.le_refl _⟩, ⟨bl_⟩⟩
 case round =>
  clear H'
  try clear q1
  try clear p2
  obtain ⟨x8_1, rfl, HA, HK1, HB⟩ := hrel
  cases gk with
  | zero => exact absurd HA.out (by simp [impl_Shelf.l0])
  | succ k1 =>
   have H := HA.out
   clear HA
   simp only [impl_Shelf.l0] at H
   by_cases c3 : x8_1 < (l0.length : Int)
   ·rw [if_pos c3] at H
    have c3b0 : decide (x8_1 < (l0.length : Int)) = true := decide_eq_true c3
    clear c3
    obtain ⟨c4b0, H⟩ := ifd_ H
    obtain ⟨c5b0, H⟩ := ifd_ H
    obtain ⟨t359, A6, H⟩ := bindE_ H
    have HC7 := aa_ H
    clear H
    have p358 : 0 ≤ (x8_1 : Int) := od_
    have q358 : x8_1 < (l0.length : Int) := od_
    obtain ⟨ad358, A358_1, c358_1, e358, hx358_0, hx358_1, hl358_1, hi358_1⟩ := at_T61 HR0.out x8_1 p358 q358
    cases e358
    replace hx358_0 := cb_ HB hx358_0
    replace hx358_1 := cb_ HB hx358_1
    have HR358_1 := aa_ hi358_1
    have HC358_1 := aa_ hl358_1
    clear hi358_1 hl358_1
    replace p358 := eq_true p358
    replace q358 := eq_true q358
    go_upto_if 16 with (first | (go_at_fn na1_; (refine ((HFN1.out _ bl_).2 _ _ _ _ A6.out).mono ?_); rintro e w8 ⟨rfl, hb⟩; replace HB := hbs_ hb; clear hb))
    (try simp only [Act.put, List.setIfInBounds_toArray, List.set_cons_zero, List.set_cons_succ])
    have H := HC7.out
    clear HC7
    by_cases c9 : t359 = true
    ·subst c9
     replace H := ite_t_ H
     obtain rfl := Option.some.inj H
     go_wp2
     go_ret
     exact ⟨eq_, bl_⟩
    ·replace c9 := Bool.eq_false_iff.mpr c9
     subst c9
     replace H := ite_f_ H
     have H' := aa_ H
     clear H
     go_wp2
     go_roundg k1
     case measure => have := HK1.out; omega
     case rel => exact ⟨(wrap64 (x8_1 + 1)), rf_, H', ⟨by have := HK1.out; omega⟩, ⟨bl_⟩⟩
   ·rw [if_neg c3] at H
    have c3b0 : decide (x8_1 < (l0.length : Int)) = false := decide_eq_false c3
    clear c3
    obtain rfl := Option.some.inj H
    go_wp2
    go_ret
    exact ⟨eq_, bl_⟩
-- NOT PRINTED: function 40 (impl_shelfAt_1)
def impl_shelfAt.f (k : Nat) (a0_0 : Int) (a0_1 : Bool) (a0_2 : Int) (l0_3 : List Int) (l0_4 : List Int) (l0_5 : List (S61)) (a1 : Int) : Option (Int) := (impl_Shelf.f k l0_5 (clo40 a1)).bind fun t362 => (some t362)
set_option maxHeartbeats 8000000 in
set_option maxRecDepth 100000 in
theorem impl_shelfAt.calls (k : Nat) (a0_0 : Int) (a0_1 : Bool) (a0_2 : Int) (A0_3 : Option Addr) (c0_3 : Nat) (l0_3 : List Int) (A0_4 : Option Addr) (c0_4 : Nat) (l0_4 : List Int) (A0_5 : Option Addr) (c0_5 : Nat) (l0_5 : List (S61)) (a1 : Int) (r : Int) (w : World) (hr0_3 : Kd.C (Kd.int .i64) w A0_3 l0_3.length l0_3) (hc0_3 : l0_3.length ≤ c0_3) (hr0_4 : Kd.C (Kd.int .i64) w A0_4 l0_4.length l0_4) (hc0_4 : l0_4.length ≤ c0_4) (hr0_5 : Kd.C k61 w A0_5 l0_5.length l0_5) (hc0_5 : l0_5.length ≤ c0_5) (h : impl_shelfAt.f k a0_0 a0_1 a0_2 l0_3 l0_4 l0_5 a1 = some r) :
  Calls Try.prog 24 #[.agg #[.int .i64 a0_0, .bool a0_1, .int .i64 a0_2, .slice A0_3 l0_3.length c0_3, .slice A0_4 l0_4.length c0_4, .slice A0_5 l0_5.length c0_5], .int .i64 a1] w fun e w' => e = .returned (.int .i64 r) ∧ Below w.heap.size w w' := by
 have hu42 := Try.underlying42
 have hmf : ∀ (fn : Fn) (first cap : Array Value) (w : World), (Instr.makeFunc fn first cap).run Try.prog w = .ok (.func fn first cap) w := fun _ _ _ _ => rfl
 have hu3 := Try.underlying3
 have HR0_3 := aa_ hr0_3
 have HC0_3 := aa_ hc0_3
 clear hr0_3 hc0_3
 have HR0_4 := aa_ hr0_4
 have HC0_4 := aa_ hc0_4
 clear hr0_4 hc0_4
 have HR0_5 := aa_ hr0_5
 have HC0_5 := aa_ hc0_5
 clear hr0_5 hc0_5
 have HB := aa_ (Below.refl w.heap.size w)
 have H : ((impl_Shelf.f k l0_5 (clo40 a1)).bind fun t362 => (some t362)) = some r := h
 clear h
 obtain ⟨t362, A3, H⟩ := bindE_ H
 obtain rfl := Option.some.inj H
 go_enter Try.func24, Try.ntmps24
 go_wp2_with (first | ((with_reducible refine gD_ 2 rfl ?_); refine bx_ (N := 2) (cs := #[.int .i64 a0_0, .bool a0_1, .int .i64 a0_2, .slice A0_3 l0_3.length c0_3, .slice A0_4 l0_4.length c0_4, .slice A0_5 l0_5.length c0_5]) (t := 42) ?_; intro gb360 hg w4 hbox hb; have BK360 := aa_ (hbox); have GW360 := gs_ hg; have GE360 := gs_ hg; replace HB := hbs_ hb; clear hb hbox hg) | ((with_reducible refine gD_ 3 rfl ?_); refine bx_ (N := 3) (cs := #[.int .i64 a1]) (t := 3) ?_; intro gb361 hg w5 hbox hb; have BK361 := aa_ (hbox); have GW361 := gs_ hg; have GE361 := gs_ hg; replace HB := hbs_ hb; have NB360_361 := nl_ hg BK360; have NB361_360 := nr_ hg BK360; replace BK360 := bkb_ BK360 hb; clear hb hbox hg; have hnb6 := NB360_361.out; have hnc6 := NB361_360.out; obtain ⟨hcz7, hfz7⟩ := bcf_ BK360) | ((with_reducible refine gC_ 39 rfl ?_); refine goesC_ (some 8) Try.func39 #[.slice A0_5 l0_5.length c0_5, .func (.func 40) #[] #[.pointer (some ⟨gb361, 0, none⟩)]] ?_; (with_reducible refine (impl_Shelf.calls k _ _ l0_5 (clo40 a1) 40 #[.pointer (some ⟨gb361, 0, none⟩)] t362 _ ?side1 ?side2 ?side3 A3.out).mono ?_); (case side1 => repeat (first | exact (Kd.C_below HR0_5.out HB.out) | (with_reducible refine Kd.C_alloc ?_ _) | (with_reducible refine Kd.C_drewN ?_ _) | (with_reducible refine Kd.C_drew ?_))); (case side2 => exact HC0_5.out); (case side3 => exact fun W_ hW_ => clo40_ok _ _ (bkb_ BK361 hW_).out); rintro e w8 ⟨rfl, hb⟩; refine ⟨_, rfl, ?_⟩; replace BK360 := bkb_ BK360 hb; replace BK361 := bkb_ BK361 hb; replace HB := hbs_ hb; clear hb))
 go_ret
 exact ⟨eq_, bl_⟩
def impl_Item_42.f (l0 : List (S52)) : Option (List (S52)) := if l0.length < 5864062014805 then some l0 else none
set_option maxHeartbeats 8000000 in
set_option maxRecDepth 100000 in
theorem impl_Item_42.calls (A0 : Option Addr) (c0 : Nat) (l0 : List (S52)) (r : List (S52)) (w : World) (hr0 : Kd.C k52 w A0 l0.length l0) (hc0 : l0.length ≤ c0) (h : impl_Item_42.f l0 = some r) :
  Calls Try.prog 42 #[.slice A0 l0.length c0] w fun e w' => ∃ v0_ : Value, e = .returned (v0_) ∧ Kd.R k52 52 w' w.heap.size (fun _ => True) v0_ r ∧ Below w.heap.size w w' := by
 have HR0 := aa_ hr0
 have HC0 := aa_ hc0
 clear hr0 hc0
 have hq : ∀ (w : World) (a : Option Addr) (n c n' c' : Nat), (binOp .eql 36 (.slice a n c) (.slice none n' c')).run Try.prog w = .ok (.bool a.isNone) w := fun w a n c n' c' => Lib.run_eql_slice_nil w _ _ a n c n' c' Try.underlying36
 have HB := aa_ (Below.refl w.heap.size w)
 unfold impl_Item_42.f at h
 by_cases hl : l0.length < 5864062014805
 ·rw [if_pos hl] at h
  have LM := aa_ hl
  clear hl
  obtain rfl := Option.some.inj h
  clear h
  cases A0 with
  | none =>
   have e0 : l0 = [] := by
    rcases l0 with _ | ⟨x, xs⟩
    ·rfl
    ·obtain ⟨ad, c, e, _⟩ := Kd.C_get HR0.out x 0 (by omega) (by rw [List.length_cons]; omega)
     cases e
   subst e0
   clear HR0 HC0 LM
   go_enter Try.func42, Try.ntmps42
   go_wp2
   go_ret
   exact ⟨_, eq_, Kd.R_nil _ _ _ _ _, bl_⟩
  | some ad =>
   obtain ⟨y1, hy1⟩ : ∃ y_ : List (S52), y_ = (([] : List (S52))) := ⟨_, rfl⟩
   have Ny1 := aa_ hy1
   clear hy1
   go_enter Try.func42, Try.ntmps42
   go_wp2_with (first | ((with_reducible refine gD_ 5 rfl ?_); refine Kd.R_lit k52 _ 52 ?hg (N := 5) ?hd (xs := ([] : List (S52))) (inner := []) (ok := fun _ => True) (okp := fun _ => True) ?hr ?hp (fun _ hk => hk) trivial (Below.refl _ _) (Nat.le_refl _) (by simp) ?_; (case hd => rfl); (case hg => rfl); (case hr => first | (go_simp; done) | (go_simp; rfl)); (case hp => exact (Reps.none _ _)); intro v161 w9 ho10 hb hg_ hnew_; clear hg_ hnew_; (first | rw [← Ny1.out] at ho10 | (simp only [Int.reduceToNat] at ho10; rw [← Ny1.out] at ho10)); have HO162 := aa_ (Kd.R_lower ho10 bls_); replace HB := hbs_ hb; clear hb ho10) | ((with_reducible refine gate_builtin (b := .append) (xs := #[.tmp 5, .tmp 6]) rfl ?_); at_builtin; refine Kd.R_append_rows k52 (w0 := w) w.heap.size rfl (.tmp 5) (.tmp 6) 36 52 (.agg #[(.string ⟨#[]⟩), (.bool false)]) 24 rfl Try.underlying36 info52 rfl (by decide) (by omega) v161 y1 l0 _ _ _ (fun _ => True) (fun _ => False) rfl rfl ?aO ?aR (fun _ _ h => h) (fun _ h => h.elim) ?aF ?aB ?aS ?aL ?_; (case aR => repeat (first | exact (Kd.C_below HR0.out HB.out) | (with_reducible refine Kd.C_alloc ?_ _) | (with_reducible refine Kd.C_drewN ?_ _) | (with_reducible refine Kd.C_drew ?_))); (case aB => exact bl_); (case aF => exact (fun _ _ => trivial)); (case aO => exact (rr_ HO162)); (case aS => exact bls_); (case aL => have := LM.out; rw [Ny1.out]; simp only [List.length_nil]; omega); intro v164 w11 ho hb hg hat; rw [Ny1.out, List.nil_append] at ho; replace HB := aa_ (hb); have HO165 := aa_ (ho); clear HO162; clear ho hb hg hat))
   go_ret
   exact ⟨_, eq_, by (with_reducible repeat (first | apply Kd.R_alloc | apply Kd.R_drewN | apply Kd.R_drew)); exact HO165.out, bl_⟩
 ·rw [if_neg hl] at h
  exact absurd h (by simp)
def impl_ShelfOf.f (k : Nat) (a0_0 : Int) (a0_1 : Bool) (a0_2 : Int) (l0_3 : List Int) (l0_4 : List Int) (l0_5 : List (S61)) (a1 : Int) : Option ((List (S52))) := (impl_shelfAt.f k a0_0 a0_1 a0_2 l0_3 l0_4 l0_5 a1).bind fun t364 => (if t364 < 0 then (some ([] : List (S52))) else (if 0 ≤ t364 then (if t364 < (l0_5.length : Int) then ((impl_Item_42.f ((rd_T61 l0_5 t364).f1)).bind fun t366 => (some t366)) else (none)) else (none)))
set_option maxHeartbeats 8000000 in
set_option maxRecDepth 100000 in
theorem impl_ShelfOf.calls (k : Nat) (a0_0 : Int) (a0_1 : Bool) (a0_2 : Int) (A0_3 : Option Addr) (c0_3 : Nat) (l0_3 : List Int) (A0_4 : Option Addr) (c0_4 : Nat) (l0_4 : List Int) (A0_5 : Option Addr) (c0_5 : Nat) (l0_5 : List (S61)) (a1 : Int) (r : List (S52)) (w : World) (hr0_3 : Kd.C (Kd.int .i64) w A0_3 l0_3.length l0_3) (hc0_3 : l0_3.length ≤ c0_3) (hr0_4 : Kd.C (Kd.int .i64) w A0_4 l0_4.length l0_4) (hc0_4 : l0_4.length ≤ c0_4) (hr0_5 : Kd.C k61 w A0_5 l0_5.length l0_5) (hc0_5 : l0_5.length ≤ c0_5) (h : impl_ShelfOf.f k a0_0 a0_1 a0_2 l0_3 l0_4 l0_5 a1 = some r) :
  Calls Try.prog 27 #[.agg #[.int .i64 a0_0, .bool a0_1, .int .i64 a0_2, .slice A0_3 l0_3.length c0_3, .slice A0_4 l0_4.length c0_4, .slice A0_5 l0_5.length c0_5], .int .i64 a1] w fun e w' => ∃ v0_ : Value, e = .returned (v0_) ∧ Kd.R k52 52 w' w.heap.size (fun _ => True) v0_ r ∧ Below w.heap.size w w' := by
 have hu42 := Try.underlying42
 have HR0_3 := aa_ hr0_3
 have HC0_3 := aa_ hc0_3
 clear hr0_3 hc0_3
 have HR0_4 := aa_ hr0_4
 have HC0_4 := aa_ hc0_4
 clear hr0_4 hc0_4
 have HR0_5 := aa_ hr0_5
 have HC0_5 := aa_ hc0_5
 clear hr0_5 hc0_5
 have HB := aa_ (Below.refl w.heap.size w)
 have H : ((impl_shelfAt.f k a0_0 a0_1 a0_2 l0_3 l0_4 l0_5 a1).bind fun t364 => (if t364 < 0 then (some ([] : List (S52))) else (if 0 ≤ t364 then (if t364 < (l0_5.length : Int) then ((impl_Item_42.f ((rd_T61 l0_5 t364).f1)).bind fun t366 => (some t366)) else (none)) else (none)))) = some r := h
 clear h
 obtain ⟨t364, A3, H⟩ := bindE_ H
 have HC4 := aa_ H
 clear H
 go_enter Try.func27, Try.ntmps27
 go_upto_if 10 with (first | ((with_reducible refine gD_ 2 rfl ?_); refine bx_ (N := 2) (cs := #[.int .i64 a0_0, .bool a0_1, .int .i64 a0_2, .slice A0_3 l0_3.length c0_3, .slice A0_4 l0_4.length c0_4, .slice A0_5 l0_5.length c0_5]) (t := 42) ?_; intro gb363 hg w5 hbox hb; have BK363 := aa_ (hbox); have GW363 := gs_ hg; have GE363 := gs_ hg; replace HB := hbs_ hb; clear hb hbox hg; obtain ⟨hcz6, hfz6⟩ := bcf_ BK363) | ((with_reducible refine gC_ 24 rfl ?_); refine goesC_ (some 8) Try.func24 #[.agg #[.int .i64 a0_0, .bool a0_1, .int .i64 a0_2, .slice A0_3 l0_3.length c0_3, .slice A0_4 l0_4.length c0_4, .slice A0_5 l0_5.length c0_5], .int .i64 a1] ?_; (with_reducible refine (impl_shelfAt.calls k a0_0 a0_1 a0_2 _ _ l0_3 _ _ l0_4 _ _ l0_5 a1 t364 _ ?side1 ?side2 ?side3 ?side4 ?side5 ?side6 A3.out).mono ?_); (case side1 => repeat (first | exact (Kd.C_below HR0_3.out HB.out) | (with_reducible refine Kd.C_alloc ?_ _) | (with_reducible refine Kd.C_drewN ?_ _) | (with_reducible refine Kd.C_drew ?_))); (case side2 => exact HC0_3.out); (case side3 => repeat (first | exact (Kd.C_below HR0_4.out HB.out) | (with_reducible refine Kd.C_alloc ?_ _) | (with_reducible refine Kd.C_drewN ?_ _) | (with_reducible refine Kd.C_drew ?_))); (case side4 => exact HC0_4.out); (case side5 => repeat (first | exact (Kd.C_below HR0_5.out HB.out) | (with_reducible refine Kd.C_alloc ?_ _) | (with_reducible refine Kd.C_drewN ?_ _) | (with_reducible refine Kd.C_drew ?_))); (case side6 => exact HC0_5.out); rintro e w7 ⟨rfl, hb⟩; refine ⟨_, rfl, ?_⟩; replace BK363 := bkb_ BK363 hb; replace HB := hbs_ hb; clear hb))
 (try simp only [Act.put, List.setIfInBounds_toArray, List.set_cons_zero, List.set_cons_succ])
 have H := HC4.out
 clear HC4
 by_cases c8 : t364 < 0
 ·rw [if_pos c8] at H
  have c8b0 : decide (t364 < 0) = true := decide_eq_true c8
  clear c8
  (first | rw [c8b0] | (simp only [i64_w, i32_w]; rw [c8b0]) | skip)
  obtain rfl := Option.some.inj H
  go_wp2
  go_ret
  exact ⟨_, eq_, by first | exact Kd.R_nil _ _ _ _ _ | exact Kd.N_nil _ _ _ _ _ | exact Kd.V_nil _ _ _ _ _ | exact Kd.Q_nil _ _ _ _ _ | exact Kd.S_nil _ _ _ _ _, bl_⟩
 ·rw [if_neg c8] at H
  have c8b0 : decide (t364 < 0) = false := decide_eq_false c8
  clear c8
  (first | rw [c8b0] | (simp only [i64_w, i32_w]; rw [c8b0]) | skip)
  obtain ⟨c9b0, H⟩ := ifd_ H
  obtain ⟨c10b0, H⟩ := ifd_ H
  obtain ⟨t366, A11, H⟩ := bindE_ H
  obtain rfl := Option.some.inj H
  have hcz12 := blk_cell BK363.out
  have hfz12 := blk_frozen BK363.out
  have p365 : 0 ≤ (t364 : Int) := od_
  have q365 : t364 < (l0_5.length : Int) := od_
  obtain ⟨ad365, A365_1, c365_1, e365, hx365_0, hx365_1, hl365_1, hi365_1⟩ := at_T61 HR0_5.out t364 p365 q365
  cases e365
  replace hx365_0 := cb_ HB hx365_0
  replace hx365_1 := cb_ HB hx365_1
  have HR365_1 := aa_ hi365_1
  have HC365_1 := aa_ hl365_1
  clear hi365_1 hl365_1
  replace p365 := eq_true p365
  replace q365 := eq_true q365
  go_wp2_with (first | ((with_reducible refine gC_ 42 rfl ?_); refine goesC_ (some 17) Try.func42 #[.slice A365_1 ((rd_T61 l0_5 t364).f1).length c365_1] ?_; (with_reducible refine (impl_Item_42.calls _ _ ((rd_T61 l0_5 t364).f1) t366 _ ?side1 ?side2 A11.out).mono ?_); (case side1 => repeat (first | exact (Kd.C_below HR365_1.out HB.out) | (with_reducible refine Kd.C_alloc ?_ _) | (with_reducible refine Kd.C_drewN ?_ _) | (with_reducible refine Kd.C_drew ?_))); (case side2 => exact HC365_1.out); rintro e w13 ⟨v367, rfl, ho0, hb⟩; refine ⟨_, rfl, ?_⟩; have HO368 := aa_ (Kd.R_lower ho0 bls_); replace BK363 := bkb_ BK363 hb; replace HB := hbs_ hb; (try clear hb ho0)))
  go_ret
  exact ⟨_, eq_, by (with_reducible repeat (first | apply Kd.R_alloc | apply Kd.R_drewN | apply Kd.R_drew)); exact HO368.out, bl_⟩
mutual
def impl_Item_84.l0 : Nat → List (S52) → Int → Int → (S52 → S52 → Option Int) → Int → Option ((List (S52)))
 | 0, _, _, _, _, _ => none
 | k + 1, x0, x1, x2, x3, x8 => if x8 < x2 then (impl_Item_84.l1 k x0 x1 x2 x3 x8 x8) else (some x0)
def impl_Item_84.l1 : Nat → List (S52) → Int → Int → (S52 → S52 → Option Int) → Int → Int → Option ((List (S52)))
 | 0, _, _, _, _, _, _ => none
 | k + 1, x0, x1, x2, x3, x8, x9 => if x9 > x1 then (if 0 ≤ x9 then (if x9 < (x0.length : Int) then (if 0 ≤ (wrap64 (x9 - 1)) then (if (wrap64 (x9 - 1)) < (x0.length : Int) then ((x3 (⟨(rd_T52 x0 x9).f0, (rd_T52 x0 x9).f1⟩ : S52) (⟨(rd_T52 x0 (wrap64 (x9 - 1))).f0, (rd_T52 x0 (wrap64 (x9 - 1))).f1⟩ : S52)).bind fun t371 => (if t371 < 0 then (impl_Item_84.l1 k ((x0.set (x9 : Int).toNat (⟨(rd_T52 x0 (wrap64 (x9 - 1))).f0, (rd_T52 x0 (wrap64 (x9 - 1))).f1⟩ : S52)).set ((wrap64 (x9 - 1)) : Int).toNat (⟨(rd_T52 x0 x9).f0, (rd_T52 x0 x9).f1⟩ : S52)) x1 x2 x3 x8 (wrap64 (x9 - 1))) else (impl_Item_84.l0 k x0 x1 x2 x3 (wrap64 (x8 + 1))))) else (none)) else (none)) else (none)) else (none)) else (impl_Item_84.l0 k x0 x1 x2 x3 (wrap64 (x8 + 1)))
end
def impl_Item_84.f (k : Nat) (l0 : List (S52)) (a1 : Int) (a2 : Int) (a3 : (S52 → S52 → Option Int)) : Option ((List (S52))) := impl_Item_84.l0 k l0 a1 a2 a3 (wrap64 (a1 + 1))
def impl_Item_84.T4 : Bool × List (List Nat × List Nat) := (true, [([], []), ([], []), ([0, 1], [0, 1]), ([2], [2]), ([3], [3]), ([3], [3]), ([3], [3]), ([5, 6, 3], [3, 5, 6]), ([7, 3], [3, 7]), ([3], [3]), ([3], [3]), ([10, 3], [3, 10]), ([9, 11, 3], [3, 9, 11]), ([12, 3], [3, 12]), ([4, 8, 13, 3, 3], [3, 4, 8, 13]), ([14, 3], [3, 14]), ([3, 15], [3, 15])])
def impl_Item_84.B4 : List Nat := [0, 0, 3, 7, 15, 15, 15, 111, 239, 15, 15, 1039, 3599, 7695, 16383, 32767, 65535]
theorem impl_Item_84.tab4 : rtab .any (opsOf Try.f84 4) = impl_Item_84.T4 := by kernel_rfl
theorem impl_Item_84.bits4 : waitsOk impl_Item_84.T4.2 impl_Item_84.B4 = true := by kernel_rfl
def impl_Item_84.T6 : Bool × List (List Nat × List Nat) := (true, [([], []), ([], []), ([], []), ([], []), ([3], [3]), ([], []), ([], []), ([6], [6]), ([5, 7], [5, 7]), ([8], [8]), ([], []), ([], []), ([10, 11], [10, 11]), ([12], [12]), ([0, 1, 0, 1, 5, 6, 7, 8, 9, 13], [0, 1]), ([14, 9, 0, 1, 5, 6, 7, 8, 9, 13], [9, 14]), ([2, 4, 0, 1, 2, 3, 4, 5, 6, 7, 8, 9, 10, 11, 12, 13, 14, 15], [2, 4]), ([16, 13, 15, 0, 1, 2, 3, 4, 5, 6, 7, 8, 9, 10, 11, 12, 13, 14, 15], [13, 16])])
def impl_Item_84.B6 : List Nat := [0, 0, 0, 0, 8, 0, 0, 64, 224, 480, 0, 0, 3072, 7168, 16355, 32739, 65535, 131071]
theorem impl_Item_84.tab6 : rtab .any (opsOf Try.f84 6) = impl_Item_84.T6 := by kernel_rfl
theorem impl_Item_84.bits6 : waitsOk impl_Item_84.T6.2 impl_Item_84.B6 = true := by kernel_rfl
set_option maxHeartbeats 8000000 in
set_option maxRecDepth 100000 in
theorem impl_Item_84.calls (k : Nat) (P0_ : Nat → Prop) (u9000_ : Value) (l0 : List (S52)) (a1 : Int) (a2 : Int) (a3 : (S52 → S52 → Option Int)) (na3_ : Nat) (ga3_ : Array Value) (r : List (S52)) (w0 w : World) (hB : Below w0.heap.size w0 w) (ho0 : Kd.R k52 52 w w0.heap.size P0_ u9000_ l0) (hq3 : ∀ W_, FnOk252 a3 na3_ ga3_ W_) (h : impl_Item_84.f k l0 a1 a2 a3 = some r) :
  Calls Try.prog 84 #[u9000_, .int .i64 a1, .int .i64 a2, .func (.func na3_) #[] ga3_] w fun e w' => e = .returned (.tuple #[]) ∧ Kd.R k52 52 w' w0.heap.size (fun k_ => (P0_ k_ ∨ w.heap.size ≤ k_)) u9000_ r ∧ Below w0.heap.size w0 w' ∧ Kept w w' (fun k_ => P0_ k_) := by
 have hu52 := Try.underlying52
 have HO0 := aa_ (show Kd.R k52 52 w w0.heap.size (fun k_ => (P0_ k_ ∨ w.heap.size ≤ k_)) u9000_ l0 from Kd.R_mono ho0 (fun k_ hk => (.inl hk)))
 have HK := aa_ (Kept.refl w (fun k_ => P0_ k_))
 have HFN3 := aa_ hq3
 have eg3 := (hq3 w).1
 clear hq3
 have HW0 := aa_ hB.size
 have HB := aa_ hB
 clear hB
 have H : (impl_Item_84.l0 k l0 a1 a2 a3 (wrap64 (a1 + 1))) = some r := h
 clear h
 have H' := aa_ H
 clear H
 go_enter Try.func84, Try.ntmps84
 go_wp2
 go_loopg [8] k (fun kq v8 w' => ∃ (x0_1 : List (S52)) (x8_1 : Int), v8 = .int .i64 x8_1 ∧ Aside0 (impl_Item_84.l0 kq x0_1 a1 a2 a3 x8_1 = some r) ∧ Aside0 (kq ≤ k) ∧ Aside0 (Kd.R k52 52 w' w0.heap.size (fun k_ => (P0_ k_ ∨ w.heap.size ≤ k_)) u9000_ x0_1) ∧ Aside0 (Kept w w' (fun k_ => P0_ k_)) ∧ Aside0 (Below w0.heap.size w0 w'))
 case atStart => exact ⟨(l0), (wrap64 (a1 + 1)), rf_, H', ⟨Nat.le_refl _⟩, ⟨rr_ HO0⟩, ⟨by repeat (first | (with_reducible first | exact HK.out | apply Kept.alloc | apply Kept.drewN | apply Kept.drew) | exact HK.out)⟩, ⟨bl_⟩⟩
 case round =>
  clear H'
  try clear p2
  try clear q3
  obtain ⟨x0_1, x8_1, rfl, HA, HK1, HO_0, HK, HB⟩ := hrel
  cases gk with
  | zero => exact absurd HA.out (by simp [impl_Item_84.l0])
  | succ k1 =>
   have H := HA.out
   clear HA
   simp only [impl_Item_84.l0] at H
   by_cases c5 : x8_1 < a2
   ·rw [if_pos c5] at H
    have c5b0 : decide (x8_1 < a2) = true := decide_eq_true c5
    clear c5
    have H' := aa_ H
    clear H
    go_wp2
    go_loopg [9] k1 (fun kq v9 w' => ∃ (x0_2 : List (S52)) (x9_2 : Int), v9 = .int .i64 x9_2 ∧ Aside0 (impl_Item_84.l1 kq x0_2 a1 a2 a3 x8_1 x9_2 = some r) ∧ Aside0 (kq ≤ k1) ∧ Aside0 (Kd.R k52 52 w' w0.heap.size (fun k_ => (P0_ k_ ∨ w.heap.size ≤ k_)) u9000_ x0_2) ∧ Aside0 (Kept w w' (fun k_ => P0_ k_)) ∧ Aside0 (Below w0.heap.size w0 w'))
    case atStart => exact ⟨(x0_1), (x8_1), rf_, H', ⟨Nat.le_refl _⟩, ⟨rr_ HO_0⟩, ⟨by repeat (first | (with_reducible first | exact HK.out | apply Kept.alloc | apply Kept.drewN | apply Kept.drew) | exact HK.out)⟩, ⟨bl_⟩⟩
    case round =>
     clear H'
     try clear p2
     try clear q3
     try clear c5
     try clear c5b0
     try clear p2
     try clear q3
     obtain ⟨x0_2, x9_2, rfl, HA, HK2, HO_0, HK, HB⟩ := hrel
     cases gk with
     | zero => exact absurd HA.out (by simp [impl_Item_84.l1])
     | succ k2 =>
      have H := HA.out
      clear HA
      simp only [impl_Item_84.l1] at H
      by_cases c6 : x9_2 > a1
      ·rw [if_pos c6] at H
       have c6b0 : decide (a1 < x9_2) = true := decide_eq_true c6
       clear c6
       obtain ⟨c7b0, H⟩ := ifd_ H
       obtain ⟨c8b0, H⟩ := ifd_ H
       obtain ⟨ji9, hji9⟩ : ∃ j_ : Int, (wrap64 (x9_2 - 1)) = j_ := ⟨_, rfl⟩
       replace H : (if 0 ≤ (ji9) then (if (ji9) < (x0_2.length : Int) then ((a3 (⟨(rd_T52 x0_2 x9_2).f0, (rd_T52 x0_2 x9_2).f1⟩ : S52) (⟨(rd_T52 x0_2 (ji9)).f0, (rd_T52 x0_2 (ji9)).f1⟩ : S52)).bind fun t371 => (if t371 < 0 then (impl_Item_84.l1 k2 ((x0_2.set (x9_2 : Int).toNat (⟨(rd_T52 x0_2 (ji9)).f0, (rd_T52 x0_2 (ji9)).f1⟩ : S52)).set ((ji9) : Int).toNat (⟨(rd_T52 x0_2 x9_2).f0, (rd_T52 x0_2 x9_2).f1⟩ : S52)) a1 a2 a3 x8_1 ji9) else (impl_Item_84.l0 k2 x0_2 a1 a2 a3 (wrap64 (x8_1 + 1))))) else (none)) else (none)) = some r := by first | (rw [hji9] at H; exact H) | (simp only [hji9] at H ⊢; exact H)
       have hji9w : (IntKind.i64.wrap (x9_2 - 1)) = ji9 := (i64_w _).trans hji9
       obtain ⟨c10b0, H⟩ := ifd_ H
       obtain ⟨c11b0, H⟩ := ifd_ H
       obtain ⟨t371, A12, H⟩ := bindE_ H
       have HC13 := aa_ H
       clear H
       try go_wp2
       replace HO_0 := aa_ (Kd.R_drew HO_0.out)
       replace HK := aa_ (Kept.drew HK.out)
       replace HB := aa_ (below_drew1 HB.out)
       obtain ⟨Ao15, co15, eo15⟩ := Kd.R_slice HO_0.out
       (first | subst eo15 | (injection eo15 with f1_ f2_ f3_; have f4_ := f1_.symm; have f5_ := f3_.symm; clear f1_ f2_ f3_; subst f4_; subst f5_))
       have p369 : 0 ≤ (x9_2 : Int) := od_
       have q369 : x9_2 < (x0_2.length : Int) := od_
       obtain ⟨ad369, e369, hx369_0, hx369_1⟩ := at_T52 (Kd.R_reads' HO_0.out).2.2 x9_2 p369 q369
       cases e369
       replace p369 := eq_true p369
       replace q369 := eq_true q369
       have p370 : 0 ≤ ((ji9) : Int) := od_
       have q370 : (ji9) < (x0_2.length : Int) := od_
       obtain ⟨ad370, e370, hx370_0, hx370_1⟩ := at_T52 (Kd.R_reads' HO_0.out).2.2 (ji9) p370 q370
       obtain rfl : ad369 = ad370 := (by injection e370)
       replace p370 := eq_true p370
       replace q370 := eq_true q370
       refine start_ (n := 17) (S := fun w' => w'.cell? (ad369.add ((x9_2).toNat * 2)) = some (.string ((rd_T52 x0_2 x9_2).f0)) ∧ w'.cell? ⟨(ad369.add ((x9_2).toNat * 2)).block, (ad369.add ((x9_2).toNat * 2)).off + 1, none⟩ = some (.bool ((rd_T52 x0_2 x9_2).f1)) ∧ w'.cell? (ad369.add (((ji9)).toNat * 2)) = some (.string ((rd_T52 x0_2 (ji9)).f0)) ∧ w'.cell? ⟨(ad369.add (((ji9)).toNat * 2)).block, (ad369.add (((ji9)).toNat * 2)).off + 1, none⟩ = some (.bool ((rd_T52 x0_2 (ji9)).f1))) (ds := []) (ba_ 17 0) (by kernel_rfl) rfl rfl ⟨hx369_0, hx369_1, hx370_0, hx370_1⟩ (fun hHeld => ?_); refine with_tabW impl_Item_84.tab4 impl_Item_84.bits4 (fun HT_ HW_ => ?_)
       generalize wr.drew = w14 at HO_0 HK HB hx369_0 hx369_1 hx370_0 hx370_1 hHeld ⊢
       refine pureZ_ (i := 0) (some 18) (ba_ 17 1) (ao_ HT_) ?_
       refine pureZ_ (i := 1) (some 19) (ba_ 17 3) (ao_ HT_) ?_
       refine pureZ_ (i := 2) (some 20) (ba_ 17 7) (ao_ HT_) ?_
       refine pureZ_ (i := 3) (some 21) (ba_ 17 15) (ao_ HT_) ?_
       refine pureZ_ (i := 4) (some 22) (ba_ 17 31) (ao_ HT_) ?_
       refine pureZ_ (i := 5) (some 23) (ba_ 17 63) (ao_ HT_) ?_
       refine pureZ_ (i := 6) (some 24) (ba_ 17 127) (ao_ HT_) ?_
       refine pureZ_ (i := 7) (some 25) (ba_ 17 255) (ao_ HT_) ?_
       refine pureZ_ (i := 9) (some 27) (ba_ 17 767) (ao_ HT_) ?_
       refine pureZ_ (i := 10) (some 28) (ba_ 17 1791) (ao_ HT_) ?_
       refine pureZ_ (i := 11) (some 29) (ba_ 17 3839) (ao_ HT_) ?_
       refine pureZ_ (i := 12) (some 30) (ba_ 17 7935) (ao_ HT_) ?_
       refine takeZ_ (i := 8) (some 26) (ba_ 17 8191) (take_ofW HT_.out HW_.out (by kernel_rfl)) hHeld ?_
       refine takeZ_ (i := 13) (some 31) (ba_ 17 16383) (take_ofW HT_.out HW_.out (by kernel_rfl)) hHeld ?_
       refine one_ (i := 14) (N := some 32) (ba_ 17 32767) rfl rfl (one_of HT_.out (by kernel_rfl)) (by decide) (fun K hK => ?_)
       refine goesw_ eg3 #[.agg #[.string ((rd_T52 x0_2 x9_2).f0), .bool ((rd_T52 x0_2 x9_2).f1)], .agg #[.string ((rd_T52 x0_2 (ji9)).f0), .bool ((rd_T52 x0_2 (ji9)).f1)]] (by rfl) rfl rfl (by rfl) (by (try simp only [List.map_toArray, List.map_cons, List.map_nil]); first | done | (simp only [hji9]; rfl) | rfl) ?_
       refine ((HFN3.out _).2 _ _ _ A12.out).mono ?_
       rintro e w16 ⟨rfl, hb⟩
       have HS0_ := (hb.cell (World.block_lt_of_cell? _ _ (hHeld.1))).trans (hHeld.1)
       have HS1_ := (hb.cell (World.block_lt_of_cell? _ _ (hHeld.2.1))).trans (hHeld.2.1)
       have HS2_ := (hb.cell (World.block_lt_of_cell? _ _ (hHeld.2.2.1))).trans (hHeld.2.2.1)
       have HS3_ := (hb.cell (World.block_lt_of_cell? _ _ (hHeld.2.2.2))).trans (hHeld.2.2.2)
       refine ⟨_, rfl, ?_⟩
       replace HO_0 := hob_ HO_0 hb
       replace HK := aa_ (Kept.below (S := (fun k_ => P0_ k_)) (by repeat (first | (with_reducible first | exact HK.out | apply Kept.alloc | apply Kept.drewN | apply Kept.drew) | exact HK.out)) hb)
       replace HB := hbs_ hb
       (try clear hb)
       (try clear hb2)
       (try clear hk)
       (try clear hi)
       refine hK.out _ _ ⟨HS0_, HS1_, HS2_, HS3_⟩ (fun hHeld => ?_)
       clear hK K
       refine norm_ (a' := ?_) ?_ ?_
       rotate_left
       ·show Act.put _ (some 32) _ = _
        simp only [Act.put, List.setIfInBounds_toArray, List.set_cons_zero, List.set_cons_succ, i64_w, i32_w]
        rfl
       refine pureZ_ (i := 15) (some 33) (ba_ 17 65535) (ao_ HT_) ?_
       refine pureZ_ (i := 16) (some 34) (ba_ 17 131071) (ao_ HT_) ?_
       refine done_ (done_of HT_.out (by kernel_rfl)) ?_
       go_upto_if 34 with (fail)
       have H := HC13.out
       clear HC13
       by_cases c17 : t371 < 0
       ·rw [if_pos c17] at H
        have c17b0 : decide (t371 < 0) = true := decide_eq_true c17
        clear c17
        (first | rw [c17b0] | (simp only [i64_w, i32_w]; rw [c17b0]) | skip)
        obtain ⟨y374, hy374⟩ : ∃ y_ : List (S52), y_ = (x0_2.set (x9_2 : Int).toNat (⟨(rd_T52 x0_2 (ji9)).f0, (rd_T52 x0_2 (ji9)).f1⟩ : S52)) := ⟨_, rfl⟩
        replace H : (impl_Item_84.l1 k2 (y374.set ((ji9) : Int).toNat (⟨(rd_T52 x0_2 x9_2).f0, (rd_T52 x0_2 x9_2).f1⟩ : S52)) a1 a2 a3 x8_1 ji9) = some r := rh_ hy374 H
        have Ny374 := aa_ hy374
        clear hy374
        obtain ⟨y375, hy375⟩ : ∃ y_ : List (S52), y_ = (y374.set ((ji9) : Int).toNat (⟨(rd_T52 x0_2 x9_2).f0, (rd_T52 x0_2 x9_2).f1⟩ : S52)) := ⟨_, rfl⟩
        replace H : (impl_Item_84.l1 k2 y375 a1 a2 a3 x8_1 ji9) = some r := rh_ hy375 H
        have Ny375 := aa_ hy375
        clear hy375
        have H' := aa_ H
        clear H
        try go_wp2
        replace HO_0 := aa_ (Kd.R_drew HO_0.out)
        replace HK := aa_ (Kept.drew HK.out)
        replace HB := aa_ (below_drew1 HB.out)
        have p372 : 0 ≤ ((ji9) : Int) := od_
        have q372 : (ji9) < (x0_2.length : Int) := od_
        obtain ⟨ad372, e372, hx372_0, hx372_1⟩ := at_T52 (Kd.R_reads' HO_0.out).2.2 (ji9) p372 q372
        obtain rfl : ad369 = ad372 := (by injection e372)
        replace p372 := eq_true p372
        replace q372 := eq_true q372
        have p373 : 0 ≤ (x9_2 : Int) := od_
        have q373 : x9_2 < (x0_2.length : Int) := od_
        obtain ⟨ad373, e373, hx373_0, hx373_1⟩ := at_T52 (Kd.R_reads' HO_0.out).2.2 x9_2 p373 q373
        obtain rfl : ad369 = ad373 := (by injection e373)
        replace p373 := eq_true p373
        replace q373 := eq_true q373
        have p18 : 0 ≤ (x9_2 : Int) := od_
        have q18 : (x9_2 : Int) < ((x0_2.length : Int) : Int) := od_
        obtain ⟨go18, co18, eo18, gb18, gl18, cl18, HG18⟩ := Kd.R_form HO_0.out (by omega)
        (first | cases eo18 | (injection eo18 with ea_ en_ ec_; (first | subst ea_ | (injection ea_ with ea_; subst ea_)); subst ec_; clear en_))
        have GB18 := aa_ gb18
        have GG18 := aa_ HG18
        clear gb18 gl18 HG18
        have HMgo18 := aa_ (show (P0_ go18 ∨ w.heap.size ≤ go18) from (HO_0.out.1 _ rfl))
        (first | simp only [add_plain] at hx369_0 | skip)
        (first | simp only [add_plain] at hx369_1 | skip)
        (first | simp only [add_plain] at hx370_0 | skip)
        (first | simp only [add_plain] at hx370_1 | skip)
        (first | simp only [add_plain] at hx372_0 | skip)
        (first | simp only [add_plain] at hx372_1 | skip)
        (first | simp only [add_plain] at hx373_0 | skip)
        (first | simp only [add_plain] at hx373_1 | skip)
        obtain ⟨ce18, hcl18, hM18, hcc18, hfr18⟩ := Kd.R_elem HO_0.out z52 (x9_2 : Int) p18 q18
        obtain rfl := k52_openM hM18
        have hx18_0 : World.cell? _ ⟨go18, (x9_2 : Int).toNat * 2, none⟩ = some (.string ((rd_T52 x0_2 x9_2).f0)) := hcc18 0 _ rfl
        have hx18_1 : World.cell? _ ⟨go18, (x9_2 : Int).toNat * 2 + 1, none⟩ = some (.bool ((rd_T52 x0_2 x9_2).f1)) := hcc18 1 _ rfl
        have hf18_0 : World.frozen? _ ⟨go18, (x9_2 : Int).toNat * 2, none⟩ = false := hfr18 0
        have hf18_1 : World.frozen? _ ⟨go18, (x9_2 : Int).toNat * 2 + 1, none⟩ = false := hfr18 1
        clear hcl18 hcc18 hfr18 hM18
        replace p18 := eq_true p18
        replace q18 := eq_true q18
        obtain ⟨ce21, hcl21, hM21, hcc21, hfr21⟩ := Kd.R_elem HO_0.out z52 (x9_2 : Int) (od_) (by have h_ : (x9_2 : Int) < ((x0_2.length : Int) : Int) := od_; first | exact h_ | (have e_ := (Kd.R_reads' HO_0.out).1; omega) | simpa using h_)
        obtain rfl := k52_openM hM21
        have HP21 := (Kd.R_seg HO_0.out (x9_2 : Int) (od_) (by have h_ : (x9_2 : Int) < ((x0_2.length : Int) : Int) := od_; first | exact h_ | (have e_ := (Kd.R_reads' HO_0.out).1; omega) | simpa using h_) (seg := [.string ((rd_T52 x0_2 (ji9)).f0), .bool ((rd_T52 x0_2 (ji9)).f1)]) (j := 0) hcl21 hcc21 (show 2 ≤ 2 from by decide) (x' := (⟨(rd_T52 x0_2 (ji9)).f0, (rd_T52 x0_2 (ji9)).f1⟩ : S52)) (k52_mkM _ _ _ (⟨(rd_T52 x0_2 (ji9)).f0, (rd_T52 x0_2 (ji9)).f1⟩ : S52) ) (fun _ hk => hk)).1
        rw [← Ny374.out] at HP21
        have HQ21 := aa_ HP21
        clear hcl21 hcc21 hfr21 hM21 HP21
        have p19 : 0 ≤ ((ji9) : Int) := od_
        have q19 : ((ji9) : Int) < ((x0_2.length : Int) : Int) := od_
        obtain ⟨ce19, hcl19, hM19, hcc19, hfr19⟩ := Kd.R_elem HQ21.out z52 ((ji9) : Int) p19 q19
        obtain rfl := k52_openM hM19
        have hx19_0 : World.cell? _ ⟨go18, ((ji9) : Int).toNat * 2, none⟩ = some (.string ((rd_T52 y374 (ji9)).f0)) := hcc19 0 _ rfl
        have hx19_1 : World.cell? _ ⟨go18, ((ji9) : Int).toNat * 2 + 1, none⟩ = some (.bool ((rd_T52 y374 (ji9)).f1)) := hcc19 1 _ rfl
        have hf19_0 : World.frozen? _ ⟨go18, ((ji9) : Int).toNat * 2, none⟩ = false := hfr19 0
        have hf19_1 : World.frozen? _ ⟨go18, ((ji9) : Int).toNat * 2 + 1, none⟩ = false := hfr19 1
        clear hcl19 hcc19 hfr19 hM19
        have hz19_0 := cell_odd_ hx19_0
        have hz19_1 := cell_evn_ hx19_1
        have hy19_0 := frz2_ hf19_0
        have hy19_1 := frz2_ hf19_1
        replace p19 := eq_true p19
        replace q19 := eq_true q19
        obtain ⟨ce22, hcl22, hM22, hcc22, hfr22⟩ := Kd.R_elem HQ21.out z52 ((ji9) : Int) (od_) (by have h_ : ((ji9) : Int) < ((x0_2.length : Int) : Int) := od_; first | exact h_ | (have e_ := (Kd.R_reads' HO_0.out).1; omega) | simpa using h_)
        obtain rfl := k52_openM hM22
        have HP22 := (Kd.R_seg HQ21.out ((ji9) : Int) (od_) (by have h_ : ((ji9) : Int) < ((x0_2.length : Int) : Int) := od_; first | exact h_ | (have e_ := (Kd.R_reads' HO_0.out).1; omega) | simpa using h_) (seg := [.string ((rd_T52 x0_2 x9_2).f0), .bool ((rd_T52 x0_2 x9_2).f1)]) (j := 0) hcl22 hcc22 (show 2 ≤ 2 from by decide) (x' := (⟨(rd_T52 x0_2 x9_2).f0, (rd_T52 x0_2 x9_2).f1⟩ : S52)) (k52_mkM _ _ _ (⟨(rd_T52 x0_2 x9_2).f0, (rd_T52 x0_2 x9_2).f1⟩ : S52) ) (fun _ hk => hk)).1
        rw [← Ny375.out] at HP22
        have HQ22 := aa_ HP22
        clear hcl22 hcc22 hfr22 hM22 HP22
        refine start_ (n := 18) (S := fun w' => w'.cell? ⟨go18, (((ji9)).toNat * 2), none⟩ = some (.string ((rd_T52 x0_2 (ji9)).f0)) ∧ w'.cell? ⟨go18, (((ji9)).toNat * 2) + 1, none⟩ = some (.bool ((rd_T52 x0_2 (ji9)).f1)) ∧ w'.cell? ⟨go18, ((x9_2).toNat * 2), none⟩ = some (.string ((rd_T52 x0_2 x9_2).f0)) ∧ w'.cell? ⟨go18, ((x9_2).toNat * 2) + 1, none⟩ = some (.bool ((rd_T52 x0_2 x9_2).f1))) (ds := [15, 17]) (ba_ 18 0) (by kernel_rfl) rfl rfl ⟨hx372_0, hx372_1, hx373_0, hx373_1⟩ (fun hHeld => ?_); refine with_tabW impl_Item_84.tab6 impl_Item_84.bits6 (fun HT_ HW_ => ?_)
        generalize w16.drew = w20 at HO_0 HK HB GG18 HQ21 HQ22 hf18_0 hf18_1 hf19_0 hf19_1 hx18_0 hx18_1 hx19_0 hz19_0 hz19_1 hy19_0 hy19_1 hx19_1 hx369_0 hx369_1 hx370_0 hx370_1 hx372_0 hx372_1 hx373_0 hx373_1 hHeld ⊢
        refine pureZ_ (i := 0) (some 37) (ba_ 18 1) (ao_ HT_) ?_
        refine pureZ_ (i := 1) (some 38) (ba_ 18 3) (ao_ HT_) ?_
        refine pureZ_ (i := 2) (some 39) (ba_ 18 7) (ao_ HT_) ?_
        refine pureZ_ (i := 3) (some 40) (ba_ 18 15) (ao_ HT_) ?_
        refine pureZ_ (i := 4) (some 41) (ba_ 18 31) (ao_ HT_) ?_
        refine pureZ_ (i := 5) (some 42) (ba_ 18 63) (ao_ HT_) ?_
        refine pureZ_ (i := 6) (some 43) (ba_ 18 127) (ao_ HT_) ?_
        refine pureZ_ (i := 7) (some 44) (ba_ 18 255) (ao_ HT_) ?_
        refine pureZ_ (i := 8) (some 45) (ba_ 18 511) (ao_ HT_) ?_
        refine pureZ_ (i := 10) (some 47) (ba_ 18 1535) (ao_ HT_) ?_
        refine pureZ_ (i := 11) (some 48) (ba_ 18 3583) (ao_ HT_) ?_
        refine pureZ_ (i := 12) (some 49) (ba_ 18 7679) (ao_ HT_) ?_
        refine takeZ_ (i := 9) (some 46) (ba_ 18 8191) (take_ofW HT_.out HW_.out (by kernel_rfl)) hHeld ?_
        refine takeZ_ (i := 13) (some 50) (ba_ 18 16383) (take_ofW HT_.out HW_.out (by kernel_rfl)) hHeld ?_
        refine pureZ_ (i := 14) (some 51) (ba_ 18 32767) (ao_ HT_) ?_
        refine last_ (i := 15) (N := none) (ba_ 18 65535) rfl rfl (one_of HT_.out (by kernel_rfl)) (by decide) (fun K hK => ?_)
        refine skip_ (w1 := ?_) (by rfl) rfl ?_ ?_
        rotate_left
        ·go_simp
         rfl
        refine hK.out _ _ ?_
        clear hK K
        refine pureZ_ (i := 16) (some 52) (ba_ 18 131071) (ao_ HT_) ?_
        refine last_ (i := 17) (N := none) (ba_ 18 262143) rfl rfl (one_of HT_.out (by kernel_rfl)) (by decide) (fun K hK => ?_)
        refine skip_ (w1 := ?_) (by rfl) rfl ?_ ?_
        rotate_left
        ·go_simp
         rfl
        refine hK.out _ _ ?_
        clear hK K
        refine done_ (done_of HT_.out (by kernel_rfl)) ?_
        try go_wp2
        go_roundg k2
        case measure => have := HK1.out; have := HK2.out; omega
        case rel => exact ⟨(y375), (ji9), (by first | rfl | (simp; done) | (simp only [← hji9] <;> (first | rfl | simp)) | (simp [*]; done)), H', ⟨by have := HK1.out; have := HK2.out; omega⟩, ⟨rr_ HQ22⟩, ⟨by repeat (first | (with_reducible first | exact HK.out | apply Kept.alloc | apply Kept.drewN | apply Kept.drew | refine Kept.setCell ?_ HMgo18.out _ | refine Kept.setCell ?_ HMgo18.out _ | refine Kept.setCell ?_ HMgo18.out _ | refine Kept.setCell ?_ HMgo18.out _) | exact HK.out)⟩, ⟨by repeat (first | (with_reducible first | exact HB.out | apply below_alloc | apply pw_below_drewN | apply below_drew1 | refine below_set ?_ GB18.out | refine below_set ?_ GB18.out | refine below_set ?_ GB18.out | refine below_set ?_ GB18.out) | exact HB.out)⟩⟩
       ·rw [if_neg c17] at H
        have c17b0 : decide (t371 < 0) = false := decide_eq_false c17
        clear c17
        (first | rw [c17b0] | (simp only [i64_w, i32_w]; rw [c17b0]) | skip)
        have H' := aa_ H
        clear H
        go_wp2
        go_roundg k2
        case measure => have := HK1.out; have := HK2.out; omega
        case rel => exact ⟨(x0_2), (wrap64 (x8_1 + 1)), rf_, H', ⟨by have := HK1.out; have := HK2.out; omega⟩, ⟨rr_ HO_0⟩, ⟨by repeat (first | (with_reducible first | exact HK.out | apply Kept.alloc | apply Kept.drewN | apply Kept.drew) | exact HK.out)⟩, ⟨bl_⟩⟩
      ·rw [if_neg c6] at H
       have c6b0 : decide (a1 < x9_2) = false := decide_eq_false c6
       clear c6
       have H' := aa_ H
       clear H
       try go_wp2
       replace HO_0 := aa_ (Kd.R_drew HO_0.out)
       replace HK := aa_ (Kept.drew HK.out)
       replace HB := aa_ (below_drew1 HB.out)
       refine start_ (n := 17) (S := fun w' => True) (ds := []) (ba_ 17 0) (by kernel_rfl) rfl rfl trivial (fun hHeld => ?_); refine with_tabW impl_Item_84.tab4 impl_Item_84.bits4 (fun HT_ HW_ => ?_)
       generalize wr.drew = w23 at HO_0 HK HB hHeld ⊢
       refine pureZ_ (i := 0) (some 18) (ba_ 17 1) (ao_ HT_) ?_
       refine pureZ_ (i := 1) (some 19) (ba_ 17 3) (ao_ HT_) ?_
       refine pureZ_ (i := 2) (some 20) (ba_ 17 7) (ao_ HT_) ?_
       refine pureZ_ (i := 3) (some 21) (ba_ 17 15) (ao_ HT_) ?_
       refine pure_ (i := 4) (N := some 22) (v := undef) (a' := ?_) (ba_ 17 31) rfl rfl (ao_ HT_) (fun _ _ _ h => h) (Or.inr ⟨by rfl, rfl⟩) ?_ ?_
       rotate_left
       ·simp only [Act.put, List.setIfInBounds_toArray, List.set_cons_zero, List.set_cons_succ, i64_w, i32_w]
        rfl
       refine pure_ (i := 5) (N := some 23) (v := undef) (a' := ?_) (ba_ 17 63) rfl rfl (ao_ HT_) (fun _ _ _ h => h) (Or.inr ⟨by rfl, rfl⟩) ?_ ?_
       rotate_left
       ·simp only [Act.put, List.setIfInBounds_toArray, List.set_cons_zero, List.set_cons_succ, i64_w, i32_w]
        rfl
       refine pure_ (i := 6) (N := some 24) (v := undef) (a' := ?_) (ba_ 17 127) rfl rfl (ao_ HT_) (fun _ _ _ h => h) (Or.inr ⟨by rfl, rfl⟩) ?_ ?_
       rotate_left
       ·simp only [Act.put, List.setIfInBounds_toArray, List.set_cons_zero, List.set_cons_succ, i64_w, i32_w]
        rfl
       refine pure_ (i := 7) (N := some 25) (v := undef) (a' := ?_) (ba_ 17 255) rfl rfl (ao_ HT_) (fun _ _ _ h => h) (Or.inr ⟨by rfl, rfl⟩) ?_ ?_
       rotate_left
       ·simp only [Act.put, List.setIfInBounds_toArray, List.set_cons_zero, List.set_cons_succ, i64_w, i32_w]
        rfl
       refine pure_ (i := 8) (N := some 26) (v := undef) (a' := ?_) (ba_ 17 511) rfl rfl (ao_ HT_) (fun _ _ _ h => h) (Or.inr ⟨by rfl, rfl⟩) ?_ ?_
       rotate_left
       ·simp only [Act.put, List.setIfInBounds_toArray, List.set_cons_zero, List.set_cons_succ, i64_w, i32_w]
        rfl
       refine pure_ (i := 9) (N := some 27) (v := undef) (a' := ?_) (ba_ 17 1023) rfl rfl (ao_ HT_) (fun _ _ _ h => h) (Or.inr ⟨by rfl, rfl⟩) ?_ ?_
       rotate_left
       ·simp only [Act.put, List.setIfInBounds_toArray, List.set_cons_zero, List.set_cons_succ, i64_w, i32_w]
        rfl
       refine pure_ (i := 10) (N := some 28) (v := undef) (a' := ?_) (ba_ 17 2047) rfl rfl (ao_ HT_) (fun _ _ _ h => h) (Or.inr ⟨by rfl, rfl⟩) ?_ ?_
       rotate_left
       ·simp only [Act.put, List.setIfInBounds_toArray, List.set_cons_zero, List.set_cons_succ, i64_w, i32_w]
        rfl
       refine pure_ (i := 11) (N := some 29) (v := undef) (a' := ?_) (ba_ 17 4095) rfl rfl (ao_ HT_) (fun _ _ _ h => h) (Or.inr ⟨by rfl, rfl⟩) ?_ ?_
       rotate_left
       ·simp only [Act.put, List.setIfInBounds_toArray, List.set_cons_zero, List.set_cons_succ, i64_w, i32_w]
        rfl
       refine pure_ (i := 12) (N := some 30) (v := undef) (a' := ?_) (ba_ 17 8191) rfl rfl (ao_ HT_) (fun _ _ _ h => h) (Or.inr ⟨by rfl, rfl⟩) ?_ ?_
       rotate_left
       ·simp only [Act.put, List.setIfInBounds_toArray, List.set_cons_zero, List.set_cons_succ, i64_w, i32_w]
        rfl
       refine pure_ (i := 13) (N := some 31) (v := undef) (a' := ?_) (ba_ 17 16383) rfl rfl (ao_ HT_) (fun _ _ _ h => h) (Or.inr ⟨by rfl, rfl⟩) ?_ ?_
       rotate_left
       ·simp only [Act.put, List.setIfInBounds_toArray, List.set_cons_zero, List.set_cons_succ, i64_w, i32_w]
        rfl
       refine pure_ (i := 14) (N := some 32) (v := undef) (a' := ?_) (ba_ 17 32767) rfl rfl (ao_ HT_) (fun _ _ _ h => h) (Or.inr ⟨by rfl, rfl⟩) ?_ ?_
       rotate_left
       ·simp only [Act.put, List.setIfInBounds_toArray, List.set_cons_zero, List.set_cons_succ, i64_w, i32_w]
        rfl
       refine pure_ (i := 15) (N := some 33) (v := undef) (a' := ?_) (ba_ 17 65535) rfl rfl (ao_ HT_) (fun _ _ _ h => h) (Or.inr ⟨by rfl, rfl⟩) ?_ ?_
       rotate_left
       ·simp only [Act.put, List.setIfInBounds_toArray, List.set_cons_zero, List.set_cons_succ, i64_w, i32_w]
        rfl
       refine pureZ_ (i := 16) (some 34) (ba_ 17 131071) (ao_ HT_) ?_
       refine done_ (done_of HT_.out (by kernel_rfl)) ?_
       try go_wp2
       go_roundg k2
       case measure => have := HK1.out; have := HK2.out; omega
       case rel => exact ⟨(x0_2), (wrap64 (x8_1 + 1)), rf_, H', ⟨by have := HK1.out; have := HK2.out; omega⟩, ⟨rr_ HO_0⟩, ⟨by repeat (first | (with_reducible first | exact HK.out | apply Kept.alloc | apply Kept.drewN | apply Kept.drew) | exact HK.out)⟩, ⟨bl_⟩⟩
   ·rw [if_neg c5] at H
    have c5b0 : decide (x8_1 < a2) = false := decide_eq_false c5
    clear c5
    obtain rfl := Option.some.inj H
    go_wp2
    first | go_end0 | ((try simp only [Exit.inBlock, Exit.then]); refine bodyPost_ret (results_none rfl _ _ _) rfl ?_)
    exact ⟨eq_, by (with_reducible repeat (first | apply Kd.R_alloc | apply Kd.R_drewN | apply Kd.R_drew)); exact HO_0.out, bl_, by repeat (first | (with_reducible first | exact HK.out | apply Kept.alloc | apply Kept.drewN | apply Kept.drew) | exact HK.out)⟩
end Go.Proofs.Ytkimdmdkldlhpaa.PA
