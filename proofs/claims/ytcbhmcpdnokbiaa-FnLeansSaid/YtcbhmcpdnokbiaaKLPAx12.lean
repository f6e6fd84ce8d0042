import Derived.Test.YtcbhmcpdnokbiaaKLPAx11
-- printed by wip/tools
namespace Go.Proofs.Ytcbhmcpdnokbiaa.PA
open Go.RowKit Go.Proofs.YtcbhmcpdnokbiaaW.PrintWords Go.Proofs.YtcbhmcpdnokbiaaW.PrintLast Go.Proofs.YtcbhmcpdnokbiaaW.PrintMore
attribute [local go_sem] max2_int min2_int max_two min_two max_three min_three max_four min_four
set_option linter.unusedVariables false
set_option linter.unusedSimpArgs false
attribute [local go_sem high] eqA27
def impl_MembersOf.l0 : Nat → List Int → List (S29) → Int → Int → Int → Int → Option (List Int)
 | 0, _, _, _, _, _, _ => none
 | k + 1, x5, x10, x11, x12, x413000, x413001 => if x12 < x11 then (if 0 ≤ x12 then (if x12 < (x10.length : Int) then (if (((rd_T29 x10 x12).f0.f0) == x413000 && (((rd_T29 x10 x12).f0.f1) == x413001)) = true then (if x5.length < 17592186044416 then (impl_MembersOf.l0 k (x5 ++ [(rd_T29 x10 x12).f1]) x10 x11 (wrap64 (x12 + 1)) x413000 x413001) else (none)) else (impl_MembersOf.l0 k x5 x10 x11 (wrap64 (x12 + 1)) x413000 x413001)) else (none)) else (none)) else ((slices_Sort_int_int.f x5).bind fun t424 => (some t424))
def impl_MembersOf.f (k : Nat) (l0 : List (S46)) (a1_0 : Int) (a1_1 : Int) : Option (List Int) := (impl_FactsOf.f k l0).bind fun t416 => (impl_MembersOf.l0 k (([] : List Int)) t416 (t416.length : Int) 0 a1_0 a1_1)
set_option maxHeartbeats 8000000 in
set_option maxRecDepth 100000 in
theorem impl_MembersOf.calls (k : Nat) (A0 : Option Addr) (c0 : Nat) (l0 : List (S46)) (a1_0 : Int) (a1_1 : Int) (r : List Int) (w : World) (hr0 : Kd.C k46 w A0 l0.length l0) (hc0 : l0.length ≤ c0) (h : impl_MembersOf.f k l0 a1_0 a1_1 = some r) :
  Calls Try.prog 39 #[.slice A0 l0.length c0, .agg #[.int .i64 a1_0, .int .i64 a1_1]] w fun e w' => ∃ v0_ : Value, e = .returned (v0_) ∧ Kd.R (Kd.int .i64) 3 w' w.heap.size (fun _ => True) v0_ r ∧ Below w.heap.size w w' := by
 have hu27 := Try.underlying27
 have hu29 := Try.underlying29
 have HR0 := aa_ hr0
 have HC0 := aa_ hc0
 clear hr0 hc0
 have HB := aa_ (Below.refl w.heap.size w)
 have H : ((impl_FactsOf.f k l0).bind fun t416 => (impl_MembersOf.l0 k (([] : List Int)) t416 (t416.length : Int) 0 a1_0 a1_1)) = some r := h
 clear h
 obtain ⟨y413, hy413⟩ : ∃ y_ : List Int, y_ = (([] : List Int)) := ⟨_, rfl⟩
 replace H : ((impl_FactsOf.f k l0).bind fun t416 => (impl_MembersOf.l0 k y413 t416 (t416.length : Int) 0 a1_0 a1_1)) = some r := rh_ hy413 H
 have Ny413 := aa_ hy413
 clear hy413
 obtain ⟨t416, A3, H⟩ := bindE_ H
 have H' := aa_ H
 clear H
 go_enter Try.func39, Try.ntmps39
 go_wp2_with (first | ((with_reducible refine gD_ 3 rfl ?_); refine bx_ (N := 3) (cs := #[.int .i64 a1_0, .int .i64 a1_1]) (t := 27) ?_; intro gb412 hg w4 hbox hb; have BK412 := aa_ (hbox); have GW412 := gs_ hg; have GE412 := gs_ hg; replace HB := hbs_ hb; clear hb hbox hg) | ((with_reducible refine gD_ 8 rfl ?_); refine Kd.R_lit (Kd.int .i64) _ 3 ?hg (N := 8) ?hd (xs := ([] : List Int)) (inner := []) (ok := fun _ => True) (okp := fun _ => True) ?hr ?hp (fun _ hk => hk) trivial (Below.refl _ _) (Nat.le_refl _) (by simp) ?_; (case hd => rfl); (case hg => rfl); (case hr => first | (go_simp; done) | (go_simp; rfl)); (case hp => exact (Reps.none _ _)); intro v414 w5 ho6 hb hg_ hnew_; clear hg_ hnew_; (first | rw [← Ny413.out] at ho6 | (simp only [Int.reduceToNat] at ho6; rw [← Ny413.out] at ho6)); have HO415 := aa_ (Kd.R_lower ho6 bls_); replace BK412 := bkb_ BK412 hb; replace HB := hbs_ hb; clear hb ho6) | ((with_reducible refine gC_ 41 rfl ?_); refine goesC_ (some 10) Try.func41 #[.slice A0 l0.length c0] ?_; (with_reducible refine (impl_FactsOf.calls k _ _ l0 t416 _ ?side1 ?side2 A3.out).mono ?_); (case side1 => repeat (first | exact (Kd.C_below HR0.out HB.out) | (with_reducible refine Kd.C_alloc ?_ _) | (with_reducible refine Kd.C_drewN ?_ _) | (with_reducible refine Kd.C_drew ?_))); (case side2 => exact HC0.out); rintro e w7 ⟨v417, rfl, ho0, hb⟩; refine ⟨_, rfl, ?_⟩; replace HO415 := hob_ HO415 hb; have HO418 := aa_ (Kd.R_lower ho0 bls_); replace BK412 := bkb_ BK412 hb; replace HB := hbs_ hb; (try clear hb ho0); obtain ⟨Ao8, co8, eo8⟩ := Kd.R_slice HO418.out; subst eo8))
 go_loopg [5, 12] k (fun kq v5 v12 w' => ∃ (x5_1 : List Int) (x12_1 : Int), v12 = .int .i64 x12_1 ∧ Aside0 (impl_MembersOf.l0 kq x5_1 t416 (t416.length : Int) x12_1 a1_0 a1_1 = some r) ∧ Aside0 (kq ≤ k) ∧ Aside0 (Kd.R (Kd.int .i64) 3 w' w.heap.size (fun _ => True) v5 x5_1) ∧ Aside0 (Kd.R k29 29 w' w.heap.size (fun _ => True) (.slice Ao8 t416.length co8) t416) ∧ Aside0 (w'.heap[gb412]? = some (.cells #[.int .i64 a1_0, .int .i64 a1_1] 27 (0, 0))) ∧ Aside0 (Below w.heap.size w w'))
 case atStart => exact ⟨(y413), (0), rf_, H', ⟨Nat.le_refl _⟩, ⟨rr_ HO415⟩, ⟨rr_ HO418⟩, ⟨bk_ BK412⟩, ⟨bl_⟩⟩
 case round =>
  clear H'
  try clear p2
  try clear c3
  try clear c4
  obtain ⟨x5_1, x12_1, rfl, HA, HK1, HO_5, HO_10, BK412, HB⟩ := hrel
  cases gk with
  | zero => exact absurd HA.out (by simp [impl_MembersOf.l0])
  | succ k1 =>
   have H := HA.out
   clear HA
   simp only [impl_MembersOf.l0] at H
   by_cases c9 : x12_1 < (t416.length : Int)
   ·rw [if_pos c9] at H
    have c9b0 : decide (x12_1 < (t416.length : Int)) = true := decide_eq_true c9
    clear c9
    obtain ⟨c10b0, H⟩ := ifd_ H
    obtain ⟨c11b0, H⟩ := ifd_ H
    have HC12 := aa_ H
    clear H
    have p419 : 0 ≤ (x12_1 : Int) := od_
    have q419 : x12_1 < (t416.length : Int) := od_
    obtain ⟨ad419, e419, hx419_0, hx419_1, hx419_2⟩ := at_T29 (Kd.R_reads' HO_10.out).2.2 x12_1 p419 q419
    cases e419
    replace p419 := eq_true p419
    replace q419 := eq_true q419
    go_upto_if 19 with (first | ((with_reducible refine gD_ 7 rfl ?_); refine bx_ (N := 7) (cs := #[.int .i64 0, .int .i64 0, .int .i64 0]) (t := 29) ?_; intro gb420 hg w13 hbox hb; replace HO_5 := hob_ HO_5 hb; replace HO_10 := aa_ (Kd.R_below (Kd.R_elderB (rr_ HO_10) gb420 (Nat.le_of_eq hg.symm)) hb); have BK420 := aa_ (hbox); have GW420 := gs_ hg; have GE420 := gs_ hg; replace HB := hbs_ hb; have NB412_420 := nl_ hg BK412; have NB420_412 := nr_ hg BK412; replace BK412 := bkb_ BK412 hb; clear hb hbox hg; have hnb14 := NB420_412.out; have hnc14 := NB412_420.out; obtain ⟨hcz15, hfz15⟩ := bcf_ BK420; obtain ⟨hcz16, hfz16⟩ := bcf_ BK412))
    have n0_ : Aside0 (Kd.R (Kd.int .i64) 3 (((w13.setCell ⟨gb420, 0, none⟩ (.int .i64 ((rd_T29 t416 x12_1).f0.f0))).setCell ⟨gb420, 1, none⟩ (.int .i64 ((rd_T29 t416 x12_1).f0.f1))).setCell ⟨gb420, 2, none⟩ (.int .i64 ((rd_T29 t416 x12_1).f1))) w.heap.size (fun _ => True) u5 x5_1) := ⟨by (with_reducible repeat (first | apply Kd.R_alloc | apply Kd.R_drewN | apply Kd.R_drew)); exact Kd.R_mono (fr3_ (Kd.R_types HO_5.out BK420.out (by decide)) (fun _ hk => hk.2)) (fun _ hk => trivial)⟩
    have n1_ : Aside0 (Kd.R k29 29 (((w13.setCell ⟨gb420, 0, none⟩ (.int .i64 ((rd_T29 t416 x12_1).f0.f0))).setCell ⟨gb420, 1, none⟩ (.int .i64 ((rd_T29 t416 x12_1).f0.f1))).setCell ⟨gb420, 2, none⟩ (.int .i64 ((rd_T29 t416 x12_1).f1))) w.heap.size (fun k_ => k_ ≠ gb420) (.slice (some ad419) t416.length co8) t416) := ⟨by (with_reducible repeat (first | apply Kd.R_alloc | apply Kd.R_drewN | apply Kd.R_drew)); exact Kd.R_mono (fr3_ (Kd.R_mono HO_10.out (fun k_ hk => (⟨hk, hk.2⟩ : _ ∧ k_ ≠ gb420))) (fun _ hk => hk.2)) (fun _ hk => hk.1.2)⟩
    have n2_ : Aside0 ((((w13.setCell ⟨gb420, 0, none⟩ (.int .i64 ((rd_T29 t416 x12_1).f0.f0))).setCell ⟨gb420, 1, none⟩ (.int .i64 ((rd_T29 t416 x12_1).f0.f1))).setCell ⟨gb420, 2, none⟩ (.int .i64 ((rd_T29 t416 x12_1).f1))).heap[gb412]? = some (.cells #[.int .i64 a1_0, .int .i64 a1_1] 27 (0, 0))) := ⟨bk_ BK412⟩
    have n3_ : Aside0 ((((w13.setCell ⟨gb420, 0, none⟩ (.int .i64 ((rd_T29 t416 x12_1).f0.f0))).setCell ⟨gb420, 1, none⟩ (.int .i64 ((rd_T29 t416 x12_1).f0.f1))).setCell ⟨gb420, 2, none⟩ (.int .i64 ((rd_T29 t416 x12_1).f1))).heap[gb420]? = some (.cells #[.int .i64 ((rd_T29 t416 x12_1).f0.f0), .int .i64 ((rd_T29 t416 x12_1).f0.f1), .int .i64 ((rd_T29 t416 x12_1).f1)] 29 (0, 0))) := ⟨bk_ BK420⟩
    have n4_ : Aside0 (Below w.heap.size w (((w13.setCell ⟨gb420, 0, none⟩ (.int .i64 ((rd_T29 t416 x12_1).f0.f0))).setCell ⟨gb420, 1, none⟩ (.int .i64 ((rd_T29 t416 x12_1).f0.f1))).setCell ⟨gb420, 2, none⟩ (.int .i64 ((rd_T29 t416 x12_1).f1)))) := ⟨bl_⟩
    (try clear HO_5)
    (try clear HO_10)
    (try clear BK412)
    (try clear BK420)
    (try clear HB)
    generalize (((w13.setCell ⟨gb420, 0, none⟩ (.int .i64 ((rd_T29 t416 x12_1).f0.f0))).setCell ⟨gb420, 1, none⟩ (.int .i64 ((rd_T29 t416 x12_1).f0.f1))).setCell ⟨gb420, 2, none⟩ (.int .i64 ((rd_T29 t416 x12_1).f1))) = w17 at n0_ n1_ n2_ n3_ n4_ ⊢
    have HO_5 := n0_
    have HO_10 := n1_
    have BK412 := n2_
    have BK420 := n3_
    have HB := n4_
    clear n0_ n1_ n2_ n3_ n4_
    (try simp only [Act.put, List.setIfInBounds_toArray, List.set_cons_zero, List.set_cons_succ])
    have H := HC12.out
    clear HC12
    by_cases c18 : (((rd_T29 t416 x12_1).f0.f0) == a1_0 && (((rd_T29 t416 x12_1).f0.f1) == a1_1)) = true
    ·rw [if_pos c18] at H
     have c18b0 : (((rd_T29 t416 x12_1).f0.f0) == a1_0 && (((rd_T29 t416 x12_1).f0.f1) == a1_1)) = true := c18
     (try (have c18b1 : decide (((rd_T29 t416 x12_1).f0.f0) = a1_0 && (((rd_T29 t416 x12_1).f0.f1) == a1_1)) = true := by simpa using c18))
     (try (have c18b2 : (((rd_T29 t416 x12_1).f0.f0) == a1_0 && (((rd_T29 t416 x12_1).f0.f1) == a1_1)) = true := by simpa using c18))
     clear c18
     (first | rw [c18b0] | (simp only [i64_w, i32_w]; rw [c18b0]) | skip)
     obtain ⟨c19, H⟩ := ifn_ H
     have LMc19 := aa_ c19
     clear c19
     obtain ⟨y421, hy421⟩ : ∃ y_ : List Int, y_ = (x5_1 ++ [(rd_T29 t416 x12_1).f1]) := ⟨_, rfl⟩
     replace H : (impl_MembersOf.l0 k1 y421 t416 (t416.length : Int) (wrap64 (x12_1 + 1)) a1_0 a1_1) = some r := rh_ hy421 H
     have Ny421 := aa_ hy421
     clear hy421
     have H' := aa_ H
     clear H
     have hnb20 := NB420_412.out
     have hnc20 := NB412_420.out
     have hcz21 := blk_cell BK420.out
     have hfz21 := blk_frozen BK420.out
     go_wp2_with (first | ((with_reducible refine gate_builtin (b := .append) (xs := #[.tmp 20, .tmp 23]) rfl ?_); at_builtin; refine Kd.R_append (Kd.int .i64) (w0 := w) w.heap.size rfl (.tmp 20) (.tmp 23) 32 3 (.int .i64 0) 8 rfl Try.underlying32 info3 rfl (by decide) (by omega) u5 x5_1 ((rd_T29 t416 x12_1).f1) [.int .i64 ((rd_T29 t416 x12_1).f1)] (fun _ => True) (fun _ => False) rfl rfl ?aP (fun _ hk => hk.elim) ?aF ?aO ?aB ?aS ?aL ?_; (case aP => exact rfl); (case aB => exact bl_); (case aF => exact (fun _ _ => trivial)); (case aO => exact (rr_ HO_5)); (case aS => exact bls_); (case aL => have := LMc19.out; omega); intro v422 w22 ho hb hg hat; rw [← Ny421.out] at ho; replace HO_10 := aa_ (Kd.R_over' (rr_ HO_10) (Kd.R_typed (rr_ HO_5)) (by decide) hg); replace BK412 := aa_ (blk_grown (g := gb412) (o := .cells #[.int .i64 a1_0, .int .i64 a1_1] 27 (0, 0)) (bk_ BK412) hg (Kd.R_ne HO_5.out BK412.out (by decide))); replace BK420 := aa_ (blk_grown (g := gb420) (o := .cells #[.int .i64 ((rd_T29 t416 x12_1).f0.f0), .int .i64 ((rd_T29 t416 x12_1).f0.f1), .int .i64 ((rd_T29 t416 x12_1).f1)] 29 (0, 0)) (bk_ BK420) hg (Kd.R_ne HO_5.out BK420.out (by decide))); replace HB := aa_ (hb); have HO423 := aa_ (ho); clear HO_5; clear ho hb hg hat))
     go_roundg k1
     case measure => have := HK1.out; omega
     case rel => exact ⟨(y421), (wrap64 (x12_1 + 1)), rf_, H', ⟨by have := HK1.out; omega⟩, ⟨rr_ HO423⟩, ⟨by (with_reducible repeat (first | apply Kd.R_alloc | apply Kd.R_drewN | apply Kd.R_drew)); exact Kd.R_mono HO_10.out (fun _ hk => trivial)⟩, ⟨bk_ BK412⟩, ⟨bl_⟩⟩
    ·rw [if_neg c18] at H
     have c18b0 : (((rd_T29 t416 x12_1).f0.f0) == a1_0 && (((rd_T29 t416 x12_1).f0.f1) == a1_1)) = false := by simpa using c18
     (try (have c18b1 : decide (((rd_T29 t416 x12_1).f0.f0) = a1_0 && (((rd_T29 t416 x12_1).f0.f1) == a1_1)) = false := by simpa using c18))
     (try (have c18b2 : (((rd_T29 t416 x12_1).f0.f0) == a1_0 && (((rd_T29 t416 x12_1).f0.f1) == a1_1)) = false := by simpa using c18))
     (try (have c18b3 : ¬ (((rd_T29 t416 x12_1).f0.f0) = a1_0 && (((rd_T29 t416 x12_1).f0.f1) == a1_1)) := by simpa using c18))
     clear c18
     (first | rw [c18b0] | (simp only [i64_w, i32_w]; rw [c18b0]) | skip)
     have H' := aa_ H
     clear H
     go_wp2
     go_roundg k1
     case measure => have := HK1.out; omega
     case rel => exact ⟨(x5_1), (wrap64 (x12_1 + 1)), rf_, H', ⟨by have := HK1.out; omega⟩, ⟨rr_ HO_5⟩, ⟨by (with_reducible repeat (first | apply Kd.R_alloc | apply Kd.R_drewN | apply Kd.R_drew)); exact Kd.R_mono HO_10.out (fun _ hk => trivial)⟩, ⟨bk_ BK412⟩, ⟨bl_⟩⟩
   ·rw [if_neg c9] at H
    have c9b0 : decide (x12_1 < (t416.length : Int)) = false := decide_eq_false c9
    clear c9
    obtain ⟨t424, A23, H⟩ := bindE_ H
    obtain rfl := Option.some.inj H
    obtain ⟨Ao24, co24, eo24⟩ := Kd.R_slice HO_5.out
    subst eo24
    go_wp2_with (first | ((with_reducible refine gC_ 47 rfl ?_); refine goesC_ (some 27) Try.func47 #[.slice Ao24 x5_1.length co24] ?_; (with_reducible refine (slices_Sort_int_int.calls (fun k_ => some k_ = (.slice Ao24 x5_1.length co24 : Value).ownBlock) (.slice Ao24 x5_1.length co24) x5_1 t424 w _ ?side1 ?side2 A23.out).mono ?_); (case side1 => repeat (first | (with_reducible first | exact HB.out | apply below_alloc | apply pw_below_drewN | apply below_drew1 | refine below_set ?_ GE412.out) | exact HB.out)); (case side2 => exact Kd.R_tight rfl HO_5.out); rintro e w25 ⟨rfl, hy0, hb, hkp⟩; refine ⟨_, rfl, ?_⟩; replace HO_10 := aa_ (Kd.R_mono (ok' := fun k_ => True) (Kd.R_keptB ((Kd.R_apart' HO_10.out (Kd.R_typed HO_5.out) (by decide))) hkp (fun k_ hk_ hs_ => (hk_.2) hs_)) (fun k_ hk_ => trivial)); replace BK412 := aa_ (blk_kept (bk_ BK412) hkp (fun hs_ => (fun e_ => (Kd.R_ne HO_5.out BK412.out (by decide)) e_) hs_)); replace HO_5 := aa_ (Kd.R_reok rfl hy0 (fun k_ e_ => HO_5.out.1 k_ e_)); replace HB := aa_ (hb); (try clear hb hkp hy0)))
    go_ret
    exact ⟨_, eq_, by (with_reducible repeat (first | apply Kd.R_alloc | apply Kd.R_drewN | apply Kd.R_drew)); exact HO_5.out, bl_⟩
def impl_leads.l0 : Nat → List (S27) → List Int → Int → Int → Int → Int → Int → Int → Int → Int → Int → Int → Int → Int → Option ((List (S27)))
 | 0, _, _, _, _, _, _, _, _, _, _, _, _, _, _ => none
 | k + 1, x5, x23, x24, x25, x426000, x426001, x426002, x426003, x426004, x426005, x426006, x426007, x426008, x426009 => if x25 < x24 then (if 0 ≤ x25 then (if x25 < (x23.length : Int) then (if x5.length < 8796093022208 then (impl_leads.l0 k (x5 ++ [(⟨rd x23 x25, x426007⟩ : S27)]) x23 x24 (wrap64 (x25 + 1)) x426000 x426001 x426002 x426003 x426004 x426005 x426006 x426007 x426008 x426009) else (none)) else (none)) else (none)) else (some x5)
def impl_leads.f (k : Nat) (l0 : List (S46)) (a1_0 : Int) (a1_1 : Int) (a1_2 : Int) (a1_3 : Int) (a1_4 : Int) (a1_5 : Int) (a1_6 : Int) (a1_7 : Int) (a1_8 : Int) (a1_9 : Int) : Option ((List (S27))) := if a1_0 = 2 then (some (([(⟨a1_4, a1_5⟩ : S27)] : List (S27)))) else (if a1_0 = 3 then ((impl_MembersOf.f k l0 a1_4 a1_5).bind fun t432 => (impl_leads.l0 k (([(⟨a1_4, a1_5⟩ : S27)] : List (S27))) t432 (t432.length : Int) 0 a1_0 a1_1 a1_2 a1_3 a1_4 a1_5 a1_6 a1_7 a1_8 a1_9)) else (if a1_0 = 4 then (some (([(⟨a1_4, a1_5⟩ : S27), (⟨a1_6, a1_7⟩ : S27)] : List (S27)))) else (some ([] : List (S27)))))
set_option maxHeartbeats 8000000 in
set_option maxRecDepth 100000 in
theorem impl_leads.calls (k : Nat) (A0 : Option Addr) (c0 : Nat) (l0 : List (S46)) (a1_0 : Int) (a1_1 : Int) (a1_2 : Int) (a1_3 : Int) (a1_4 : Int) (a1_5 : Int) (a1_6 : Int) (a1_7 : Int) (a1_8 : Int) (a1_9 : Int) (r : List (S27)) (w : World) (hr0 : Kd.C k46 w A0 l0.length l0) (hc0 : l0.length ≤ c0) (h : impl_leads.f k l0 a1_0 a1_1 a1_2 a1_3 a1_4 a1_5 a1_6 a1_7 a1_8 a1_9 = some r) :
  Calls Try.prog 27 #[.slice A0 l0.length c0, .agg #[.int .i64 a1_0, .int .i64 a1_1, .int .i64 a1_2, .int .i64 a1_3, .int .i64 a1_4, .int .i64 a1_5, .int .i64 a1_6, .int .i64 a1_7, .int .i64 a1_8, .int .i64 a1_9]] w fun e w' => ∃ v0_ : Value, e = .returned (v0_) ∧ Kd.R k27 27 w' w.heap.size (fun _ => True) v0_ r ∧ Below w.heap.size w w' := by
 have hu46 := Try.underlying46
 have hu27 := Try.underlying27
 have HR0 := aa_ hr0
 have HC0 := aa_ hc0
 clear hr0 hc0
 have HB := aa_ (Below.refl w.heap.size w)
 have H : (if a1_0 = 2 then (some (([(⟨a1_4, a1_5⟩ : S27)] : List (S27)))) else (if a1_0 = 3 then ((impl_MembersOf.f k l0 a1_4 a1_5).bind fun t432 => (impl_leads.l0 k (([(⟨a1_4, a1_5⟩ : S27)] : List (S27))) t432 (t432.length : Int) 0 a1_0 a1_1 a1_2 a1_3 a1_4 a1_5 a1_6 a1_7 a1_8 a1_9)) else (if a1_0 = 4 then (some (([(⟨a1_4, a1_5⟩ : S27), (⟨a1_6, a1_7⟩ : S27)] : List (S27)))) else (some ([] : List (S27)))))) = some r := h
 clear h
 have HC3 := aa_ H
 clear H
 go_enter Try.func27, Try.ntmps27
 go_upto_if 10 with (first | ((with_reducible refine gD_ 3 rfl ?_); refine bx_ (N := 3) (cs := #[.int .i64 a1_0, .int .i64 a1_1, .int .i64 a1_2, .int .i64 a1_3, .int .i64 a1_4, .int .i64 a1_5, .int .i64 a1_6, .int .i64 a1_7, .int .i64 a1_8, .int .i64 a1_9]) (t := 46) ?_; intro gb425 hg w4 hbox hb; have BK425 := aa_ (hbox); have GW425 := gs_ hg; have GE425 := gs_ hg; replace HB := hbs_ hb; clear hb hbox hg; obtain ⟨hcz5, hfz5⟩ := bcf_ BK425))
 (try simp only [Act.put, List.setIfInBounds_toArray, List.set_cons_zero, List.set_cons_succ])
 have H := HC3.out
 clear HC3
 by_cases c6 : a1_0 = 2
 ·rw [if_pos c6] at H
  have c6b0 : (a1_0 == 2) = true := beq_iff_eq.mpr c6
  have c6b1 : (a1_0 != 2) = false := bne_eq_false_iff_eq.mpr c6
  clear c6
  (first | rw [c6b0] | (simp only [i64_w, i32_w]; rw [c6b0]) | skip)
  obtain ⟨y426, hy426⟩ : ∃ y_ : List (S27), y_ = (([(⟨a1_4, a1_5⟩ : S27)] : List (S27))) := ⟨_, rfl⟩
  replace H : (some y426) = some r := rh_ hy426 H
  have Ny426 := aa_ hy426
  clear hy426
  obtain rfl := Option.some.inj H
  have hcz7 := blk_cell BK425.out
  have hfz7 := blk_frozen BK425.out
  go_wp2_with (first | ((with_reducible refine gD_ 14 rfl ?_); refine Kd.R_lit k27 _ 27 ?hg (N := 14) ?hd (xs := ([(⟨a1_4, a1_5⟩ : S27)] : List (S27))) (inner := [.int .i64 a1_4, .int .i64 a1_5]) (ok := fun _ => True) (okp := fun _ => True) ?hr ?hp (fun _ hk => hk) trivial (Below.refl _ _) (Nat.le_refl _) (by simp) ?_; (case hd => rfl); (case hg => rfl); (case hr => first | (go_simp; done) | (go_simp; rfl)); (case hp => exact (Reps.c2 (show Kd.M k27 _ _ _ (⟨a1_4, a1_5⟩ : S27) [.int .i64 a1_4, .int .i64 a1_5] from (k27_mkM _ _ _ (⟨a1_4, a1_5⟩ : S27) )) (Reps.none _ _))); intro v427 w8 ho9 hb hg_ hnew_; clear hg_ hnew_; (first | rw [← Ny426.out] at ho9 | (simp only [Int.reduceToNat] at ho9; rw [← Ny426.out] at ho9)); have HO428 := aa_ (Kd.R_lower ho9 bls_); replace BK425 := bkb_ BK425 hb; replace HB := hbs_ hb; clear hb ho9))
  go_ret
  exact ⟨_, eq_, by (with_reducible repeat (first | apply Kd.R_alloc | apply Kd.R_drewN | apply Kd.R_drew)); exact HO428.out, bl_⟩
 ·rw [if_neg c6] at H
  have c6b0 : (a1_0 == 2) = false := beq_eq_false_iff_ne.mpr c6
  have c6b1 : (a1_0 != 2) = true := bne_iff_ne.mpr c6
  (first | rw [c6b0] | (simp only [i64_w, i32_w]; rw [c6b0]) | skip)
  by_cases c10 : a1_0 = 3
  ·rw [if_pos c10] at H
   have c10b0 : (a1_0 == 3) = true := beq_iff_eq.mpr c10
   have c10b1 : (a1_0 != 3) = false := bne_eq_false_iff_eq.mpr c10
   clear c10
   obtain ⟨y429, hy429⟩ : ∃ y_ : List (S27), y_ = (([(⟨a1_4, a1_5⟩ : S27)] : List (S27))) := ⟨_, rfl⟩
   replace H : ((impl_MembersOf.f k l0 a1_4 a1_5).bind fun t432 => (impl_leads.l0 k y429 t432 (t432.length : Int) 0 a1_0 a1_1 a1_2 a1_3 a1_4 a1_5 a1_6 a1_7 a1_8 a1_9)) = some r := rh_ hy429 H
   have Ny429 := aa_ hy429
   clear hy429
   obtain ⟨t432, A11, H⟩ := bindE_ H
   have H' := aa_ H
   clear H
   have hcz12 := blk_cell BK425.out
   have hfz12 := blk_frozen BK425.out
   go_wp2_with (first | ((with_reducible refine gD_ 19 rfl ?_); refine Kd.R_lit k27 _ 27 ?hg (N := 19) ?hd (xs := ([(⟨a1_4, a1_5⟩ : S27)] : List (S27))) (inner := [.int .i64 a1_4, .int .i64 a1_5]) (ok := fun _ => True) (okp := fun _ => True) ?hr ?hp (fun _ hk => hk) trivial (Below.refl _ _) (Nat.le_refl _) (by simp) ?_; (case hd => rfl); (case hg => rfl); (case hr => first | (go_simp; done) | (go_simp; rfl)); (case hp => exact (Reps.c2 (show Kd.M k27 _ _ _ (⟨a1_4, a1_5⟩ : S27) [.int .i64 a1_4, .int .i64 a1_5] from (k27_mkM _ _ _ (⟨a1_4, a1_5⟩ : S27) )) (Reps.none _ _))); intro v430 w13 ho14 hb hg_ hnew_; clear hg_ hnew_; (first | rw [← Ny429.out] at ho14 | (simp only [Int.reduceToNat] at ho14; rw [← Ny429.out] at ho14)); have HO431 := aa_ (Kd.R_lower ho14 bls_); replace BK425 := bkb_ BK425 hb; replace HB := hbs_ hb; clear hb ho14; obtain ⟨hcz15, hfz15⟩ := bcf_ BK425) | ((with_reducible refine gC_ 39 rfl ?_); refine goesC_ (some 23) Try.func39 #[.slice A0 l0.length c0, .agg #[.int .i64 a1_4, .int .i64 a1_5]] ?_; (with_reducible refine (impl_MembersOf.calls k _ _ l0 a1_4 a1_5 t432 _ ?side1 ?side2 A11.out).mono ?_); (case side1 => repeat (first | exact (Kd.C_below HR0.out HB.out) | (with_reducible refine Kd.C_alloc ?_ _) | (with_reducible refine Kd.C_drewN ?_ _) | (with_reducible refine Kd.C_drew ?_))); (case side2 => exact HC0.out); rintro e w16 ⟨v433, rfl, ho0, hb⟩; refine ⟨_, rfl, ?_⟩; replace HO431 := hob_ HO431 hb; have HO434 := aa_ (Kd.R_lower ho0 bls_); replace BK425 := bkb_ BK425 hb; replace HB := hbs_ hb; (try clear hb ho0); obtain ⟨Ao17, co17, eo17⟩ := Kd.R_slice HO434.out; subst eo17))
   go_loopg [5, 25] k (fun kq v5 v25 w' => ∃ (x5_1 : List (S27)) (x25_1 : Int), v25 = .int .i64 x25_1 ∧ Aside0 (impl_leads.l0 kq x5_1 t432 (t432.length : Int) x25_1 a1_0 a1_1 a1_2 a1_3 a1_4 a1_5 a1_6 a1_7 a1_8 a1_9 = some r) ∧ Aside0 (kq ≤ k) ∧ Aside0 (Kd.R k27 27 w' w.heap.size (fun _ => True) v5 x5_1) ∧ Aside0 (Kd.R (Kd.int .i64) 3 w' w.heap.size (fun _ => True) (.slice Ao17 t432.length co17) t432) ∧ Aside0 (w'.heap[gb425]? = some (.cells #[.int .i64 a1_0, .int .i64 a1_1, .int .i64 a1_2, .int .i64 a1_3, .int .i64 a1_4, .int .i64 a1_5, .int .i64 a1_6, .int .i64 a1_7, .int .i64 a1_8, .int .i64 a1_9] 46 (0, 0))) ∧ Aside0 (Below w.heap.size w w'))
   case atStart => exact ⟨(y429), (0), rf_, H', ⟨Nat.le_refl _⟩, ⟨rr_ HO431⟩, ⟨rr_ HO434⟩, ⟨bk_ BK425⟩, ⟨bl_⟩⟩
   case round =>
    clear H'
    try clear c1
    try clear c2
    try clear p2
    try clear c3
    try clear c6
    try clear c6b0
    try clear c6b1
    try clear c10
    try clear c10b0
    try clear c10b1
    try clear hcz12
    try clear hcz15
    try clear hcz5
    try clear hcz7
    try clear hfz12
    try clear hfz15
    try clear hfz5
    try clear hfz7
    obtain ⟨x5_1, x25_1, rfl, HA, HK1, HO_5, HO_23, BK425, HB⟩ := hrel
    cases gk with
    | zero => exact absurd HA.out (by simp [impl_leads.l0])
    | succ k1 =>
     have H := HA.out
     clear HA
     simp only [impl_leads.l0] at H
     by_cases c18 : x25_1 < (t432.length : Int)
     ·rw [if_pos c18] at H
      have c18b0 : decide (x25_1 < (t432.length : Int)) = true := decide_eq_true c18
      clear c18
      obtain ⟨c19b0, H⟩ := ifd_ H
      obtain ⟨c20b0, H⟩ := ifd_ H
      obtain ⟨c21, H⟩ := ifn_ H
      have LMc21 := aa_ c21
      clear c21
      obtain ⟨y436, hy436⟩ : ∃ y_ : List (S27), y_ = (x5_1 ++ [(⟨rd t432 x25_1, a1_7⟩ : S27)]) := ⟨_, rfl⟩
      replace H : (impl_leads.l0 k1 y436 t432 (t432.length : Int) (wrap64 (x25_1 + 1)) a1_0 a1_1 a1_2 a1_3 a1_4 a1_5 a1_6 a1_7 a1_8 a1_9) = some r := rh_ hy436 H
      have Ny436 := aa_ hy436
      clear hy436
      have H' := aa_ H
      clear H
      have p435 : 0 ≤ (x25_1 : Int) := od_
      have q435 : x25_1 < (t432.length : Int) := od_
      obtain ⟨ad435, e435, hx435_0⟩ := Kd.at_int (Kd.R_reads' HO_23.out).2.2 x25_1 p435 q435
      cases e435
      replace p435 := eq_true p435
      replace q435 := eq_true q435
      have hcz22 := blk_cell BK425.out
      have hfz22 := blk_frozen BK425.out
      go_wp2_with (first | ((with_reducible refine gate_builtin (b := .append) (xs := #[.tmp 29, .tmp 35]) rfl ?_); at_builtin; refine Kd.R_append k27 (w0 := w) w.heap.size rfl (.tmp 29) (.tmp 35) 37 27 (.agg #[(.int .i64 0), (.int .i64 0)]) 16 rfl Try.underlying37 info27 rfl (by decide) (by omega) u5 x5_1 (⟨rd t432 x25_1, a1_7⟩ : S27) [.int .i64 (rd t432 x25_1), .int .i64 a1_7] (fun _ => True) (fun _ => False) rfl rfl ?aP (fun _ hk => hk.elim) ?aF ?aO ?aB ?aS ?aL ?_; (case aP => exact k27_mkM _ _ _ (⟨rd t432 x25_1, a1_7⟩ : S27)); (case aB => exact bl_); (case aF => exact (fun _ _ => trivial)); (case aO => exact (rr_ HO_5)); (case aS => exact bls_); (case aL => have := LMc21.out; omega); intro v437 w23 ho hb hg hat; rw [← Ny436.out] at ho; replace HO_23 := aa_ (Kd.R_over' (rr_ HO_23) (Kd.R_typed (rr_ HO_5)) (by decide) hg); replace BK425 := aa_ (blk_grown (g := gb425) (o := .cells #[.int .i64 a1_0, .int .i64 a1_1, .int .i64 a1_2, .int .i64 a1_3, .int .i64 a1_4, .int .i64 a1_5, .int .i64 a1_6, .int .i64 a1_7, .int .i64 a1_8, .int .i64 a1_9] 46 (0, 0)) (bk_ BK425) hg (Kd.R_ne HO_5.out BK425.out (by decide))); replace HB := aa_ (hb); have HO438 := aa_ (ho); clear HO_5; clear ho hb hg hat))
      go_roundg k1
      case measure => have := HK1.out; omega
      case rel => exact ⟨(y436), (wrap64 (x25_1 + 1)), rf_, H', ⟨by have := HK1.out; omega⟩, ⟨rr_ HO438⟩, ⟨rr_ HO_23⟩, ⟨bk_ BK425⟩, ⟨bl_⟩⟩
     ·rw [if_neg c18] at H
      have c18b0 : decide (x25_1 < (t432.length : Int)) = false := decide_eq_false c18
      clear c18
      obtain rfl := Option.some.inj H
      go_wp2
      go_ret
      exact ⟨_, eq_, by (with_reducible repeat (first | apply Kd.R_alloc | apply Kd.R_drewN | apply Kd.R_drew)); exact HO_5.out, bl_⟩
  ·rw [if_neg c10] at H
   have c10b0 : (a1_0 == 3) = false := beq_eq_false_iff_ne.mpr c10
   have c10b1 : (a1_0 != 3) = true := bne_iff_ne.mpr c10
   by_cases c24 : a1_0 = 4
   ·rw [if_pos c24] at H
    have c24b0 : (a1_0 == 4) = true := beq_iff_eq.mpr c24
    have c24b1 : (a1_0 != 4) = false := bne_eq_false_iff_eq.mpr c24
    clear c24
    obtain ⟨y439, hy439⟩ : ∃ y_ : List (S27), y_ = (([(⟨a1_4, a1_5⟩ : S27), (⟨a1_6, a1_7⟩ : S27)] : List (S27))) := ⟨_, rfl⟩
    replace H : (some y439) = some r := rh_ hy439 H
    have Ny439 := aa_ hy439
    clear hy439
    obtain rfl := Option.some.inj H
    have hcz25 := blk_cell BK425.out
    have hfz25 := blk_frozen BK425.out
    go_wp2_with (first | ((with_reducible refine gD_ 45 rfl ?_); refine Kd.R_lit k27 _ 27 ?hg (N := 45) ?hd (xs := ([(⟨a1_4, a1_5⟩ : S27), (⟨a1_6, a1_7⟩ : S27)] : List (S27))) (inner := [.int .i64 a1_4, .int .i64 a1_5, .int .i64 a1_6, .int .i64 a1_7]) (ok := fun _ => True) (okp := fun _ => True) ?hr ?hp (fun _ hk => hk) trivial (Below.refl _ _) (Nat.le_refl _) (by simp) ?_; (case hd => rfl); (case hg => rfl); (case hr => first | (go_simp; done) | (go_simp; rfl)); (case hp => exact (Reps.c2 (show Kd.M k27 _ _ _ (⟨a1_4, a1_5⟩ : S27) [.int .i64 a1_4, .int .i64 a1_5] from (k27_mkM _ _ _ (⟨a1_4, a1_5⟩ : S27) )) (Reps.c2 (show Kd.M k27 _ _ _ (⟨a1_6, a1_7⟩ : S27) [.int .i64 a1_6, .int .i64 a1_7] from (k27_mkM _ _ _ (⟨a1_6, a1_7⟩ : S27) )) (Reps.none _ _)))); intro v440 w26 ho27 hb hg_ hnew_; clear hg_ hnew_; (first | rw [← Ny439.out] at ho27 | (simp only [Int.reduceToNat] at ho27; rw [← Ny439.out] at ho27)); have HO441 := aa_ (Kd.R_lower ho27 bls_); replace BK425 := bkb_ BK425 hb; replace HB := hbs_ hb; clear hb ho27))
    go_ret
    exact ⟨_, eq_, by (with_reducible repeat (first | apply Kd.R_alloc | apply Kd.R_drewN | apply Kd.R_drew)); exact HO441.out, bl_⟩
   ·rw [if_neg c24] at H
    have c24b0 : (a1_0 == 4) = false := beq_eq_false_iff_ne.mpr c24
    have c24b1 : (a1_0 != 4) = true := bne_iff_ne.mpr c24
    obtain rfl := Option.some.inj H
    go_wp2
    go_ret
    exact ⟨_, eq_, by first | exact Kd.R_nil _ _ _ _ _ | exact Kd.N_nil _ _ _ _ _ | exact Kd.V_nil _ _ _ _ _ | exact Kd.Q_nil _ _ _ _ _ | exact Kd.S_nil _ _ _ _ _, bl_⟩
mutual
def impl_LeansOn.l0 : Nat → List (S46) → List (S27) → List (S46) → Int → Int → Int → Int → Option ((List (S27)))
 | 0, _, _, _, _, _, _, _ => none
 | k + 1, x0, x5, x11, x12, x13, x443000, x443001 => if x13 < x12 then (if 0 ≤ x13 then (if x13 < (x11.length : Int) then ((impl_CredOk.f k ((rd_T46 x11 x13).f0) ((rd_T46 x11 x13).f1.f0) ((rd_T46 x11 x13).f1.f1) ((rd_T46 x11 x13).f2) ((rd_T46 x11 x13).f3.f0) ((rd_T46 x11 x13).f3.f1) ((rd_T46 x11 x13).f4.f0) ((rd_T46 x11 x13).f4.f1) ((rd_T46 x11 x13).f5) ((rd_T46 x11 x13).f6)).bind fun t448 => (if t448 = true then (impl_LeansOn.j1 k x0 x5 x11 x12 x13 (!(((rd_T46 x11 x13).f1.f0) == x443000) || (!(((rd_T46 x11 x13).f1.f1) == x443001))) x443000 x443001 ((rd_T46 x11 x13).f0) ((rd_T46 x11 x13).f1.f0) ((rd_T46 x11 x13).f1.f1) ((rd_T46 x11 x13).f2) ((rd_T46 x11 x13).f3.f0) ((rd_T46 x11 x13).f3.f1) ((rd_T46 x11 x13).f4.f0) ((rd_T46 x11 x13).f4.f1) ((rd_T46 x11 x13).f5) ((rd_T46 x11 x13).f6)) else (impl_LeansOn.j1 k x0 x5 x11 x12 x13 true x443000 x443001 ((rd_T46 x11 x13).f0) ((rd_T46 x11 x13).f1.f0) ((rd_T46 x11 x13).f1.f1) ((rd_T46 x11 x13).f2) ((rd_T46 x11 x13).f3.f0) ((rd_T46 x11 x13).f3.f1) ((rd_T46 x11 x13).f4.f0) ((rd_T46 x11 x13).f4.f1) ((rd_T46 x11 x13).f5) ((rd_T46 x11 x13).f6)))) else (none)) else (none)) else (some x5)
def impl_LeansOn.j1 : Nat → List (S46) → List (S27) → List (S46) → Int → Int → Bool → Int → Int → Int → Int → Int → Int → Int → Int → Int → Int → Int → Int → Option ((List (S27)))
 | 0, _, _, _, _, _, _, _, _, _, _, _, _, _, _, _, _, _, _ => none
 | k + 1, x0, x5, x11, x12, x13, x25, x443000, x443001, x448000, x448001, x448002, x448003, x448004, x448005, x448006, x448007, x448008, x448009 => if x25 = true then (impl_LeansOn.l0 k x0 x5 x11 x12 (wrap64 (x13 + 1)) x443000 x443001) else ((impl_leads.f k x0 x448000 x448001 x448002 x448003 x448004 x448005 x448006 x448007 x448008 x448009).bind fun t449 => (impl_LeansOn.l1 k x0 x5 x11 x12 x13 t449 (t449.length : Int) 0 x443000 x443001))
def impl_LeansOn.l1 : Nat → List (S46) → List (S27) → List (S46) → Int → Int → List (S27) → Int → Int → Int → Int → Option ((List (S27)))
 | 0, _, _, _, _, _, _, _, _, _, _ => none
 | k + 1, x0, x5, x11, x12, x13, x28, x29, x30, x443000, x443001 => if x30 < x29 then (if 0 ≤ x30 then (if x30 < (x28.length : Int) then ((impl_Role_25.f k x5 ((rd_T27 x28 x30).f0) ((rd_T27 x28 x30).f1)).bind fun t454 => (if t454 = true then (impl_LeansOn.l1 k x0 x5 x11 x12 x13 x28 x29 (wrap64 (x30 + 1)) x443000 x443001) else (if x5.length < 8796093022208 then (impl_LeansOn.l1 k x0 (x5 ++ [(⟨(rd_T27 x28 x30).f0, (rd_T27 x28 x30).f1⟩ : S27)]) x11 x12 x13 x28 x29 (wrap64 (x30 + 1)) x443000 x443001) else (none)))) else (none)) else (none)) else (impl_LeansOn.l0 k x0 x5 x11 x12 (wrap64 (x13 + 1)) x443000 x443001)
end
def impl_LeansOn.f (k : Nat) (l0 : List (S46)) (a1_0 : Int) (a1_1 : Int) : Option ((List (S27))) := impl_LeansOn.l0 k l0 (([] : List (S27))) l0 (l0.length : Int) 0 a1_0 a1_1
set_option maxHeartbeats 8000000 in
set_option maxRecDepth 100000 in
theorem impl_LeansOn.calls (k : Nat) (A0 : Option Addr) (c0 : Nat) (l0 : List (S46)) (a1_0 : Int) (a1_1 : Int) (r : List (S27)) (w : World) (hr0 : Kd.C k46 w A0 l0.length l0) (hc0 : l0.length ≤ c0) (h : impl_LeansOn.f k l0 a1_0 a1_1 = some r) :
  Calls Try.prog 12 #[.slice A0 l0.length c0, .agg #[.int .i64 a1_0, .int .i64 a1_1]] w fun e w' => ∃ v0_ : Value, e = .returned (v0_) ∧ Kd.R k27 27 w' w.heap.size (fun _ => True) v0_ r ∧ Below w.heap.size w w' := by
 have hu27 := Try.underlying27
 have hu46 := Try.underlying46
 have HR0 := aa_ hr0
 have HC0 := aa_ hc0
 clear hr0 hc0
 have HB := aa_ (Below.refl w.heap.size w)
 have H : (impl_LeansOn.l0 k l0 (([] : List (S27))) l0 (l0.length : Int) 0 a1_0 a1_1) = some r := h
 clear h
 obtain ⟨y443, hy443⟩ : ∃ y_ : List (S27), y_ = (([] : List (S27))) := ⟨_, rfl⟩
 replace H : (impl_LeansOn.l0 k l0 y443 l0 (l0.length : Int) 0 a1_0 a1_1) = some r := rh_ hy443 H
 have Ny443 := aa_ hy443
 clear hy443
 have H' := aa_ H
 clear H
 go_enter Try.func12, Try.ntmps12
 go_wp2_with (first | ((with_reducible refine gD_ 3 rfl ?_); refine bx_ (N := 3) (cs := #[.int .i64 a1_0, .int .i64 a1_1]) (t := 27) ?_; intro gb442 hg w3 hbox hb; have BK442 := aa_ (hbox); have GW442 := gs_ hg; have GE442 := gs_ hg; replace HB := hbs_ hb; clear hb hbox hg) | ((with_reducible refine gD_ 10 rfl ?_); refine Kd.R_lit k27 _ 27 ?hg (N := 10) ?hd (xs := ([] : List (S27))) (inner := []) (ok := fun _ => True) (okp := fun _ => True) ?hr ?hp (fun _ hk => hk) trivial (Below.refl _ _) (Nat.le_refl _) (by simp) ?_; (case hd => rfl); (case hg => rfl); (case hr => first | (go_simp; done) | (go_simp; rfl)); (case hp => exact (Reps.none _ _)); intro v444 w4 ho5 hb hg_ hnew_; clear hg_ hnew_; (first | rw [← Ny443.out] at ho5 | (simp only [Int.reduceToNat] at ho5; rw [← Ny443.out] at ho5)); have HO445 := aa_ (Kd.R_lower (Kd.R_newB ho5 (g := gb442) (o := .cells #[.int .i64 a1_0, .int .i64 a1_1] 27 (0, 0)) (bk_ BK442)) bls_); replace BK442 := bkb_ BK442 hb; replace HB := hbs_ hb; clear hb ho5))
 go_loopg [5, 13] k (fun kq v5 v13 w' => ∃ (x5_1 : List (S27)) (x13_1 : Int), v13 = .int .i64 x13_1 ∧ Aside0 (impl_LeansOn.l0 kq l0 x5_1 l0 (l0.length : Int) x13_1 a1_0 a1_1 = some r) ∧ Aside0 (kq ≤ k) ∧ Aside0 (Kd.R k27 27 w' w.heap.size (fun k_ => k_ ≠ gb442) v5 x5_1) ∧ Aside0 (w'.heap[gb442]? = some (.cells #[.int .i64 a1_0, .int .i64 a1_1] 27 (0, 0))) ∧ Aside0 (Below w.heap.size w w'))
 case atStart => exact ⟨(y443), (0), rf_, H', ⟨Nat.le_refl _⟩, ⟨by (with_reducible repeat (first | apply Kd.R_alloc | apply Kd.R_drewN | apply Kd.R_drew)); exact Kd.R_mono HO445.out (fun _ hk => hk.2)⟩, ⟨bk_ BK442⟩, ⟨bl_⟩⟩
 case round =>
  clear H'
  try clear c1
  try clear p2
  obtain ⟨x5_1, x13_1, rfl, HA, HK1, HO_5, BK442, HB⟩ := hrel
  cases gk with
  | zero => exact absurd HA.out (by simp [impl_LeansOn.l0])
  | succ k1 =>
   have H := HA.out
   clear HA
   simp only [impl_LeansOn.l0] at H
   by_cases c6 : x13_1 < (l0.length : Int)
   ·rw [if_pos c6] at H
    have c6b0 : decide (x13_1 < (l0.length : Int)) = true := decide_eq_true c6
    clear c6
    obtain ⟨c7b0, H⟩ := ifd_ H
    obtain ⟨c8b0, H⟩ := ifd_ H
    have HC9 := aa_ H
    clear H
    have p446 : 0 ≤ (x13_1 : Int) := od_
    have q446 : x13_1 < (l0.length : Int) := od_
    obtain ⟨ad446, e446, hx446_0, hx446_1, hx446_2, hx446_3, hx446_4, hx446_5, hx446_6, hx446_7, hx446_8, hx446_9⟩ := at_T46 (Kd.C_below HR0.out HB.out) x13_1 p446 q446
    cases e446
    replace p446 := eq_true p446
    replace q446 := eq_true q446
    go_upto_region 5 with (first | ((with_reducible refine gD_ 7 rfl ?_); refine bx_ (N := 7) (cs := #[.int .i64 0, .int .i64 0, .int .i64 0, .int .i64 0, .int .i64 0, .int .i64 0, .int .i64 0, .int .i64 0, .int .i64 0, .int .i64 0]) (t := 46) ?_; intro gb447 hg w10 hbox hb; replace HO_5 := hob_ HO_5 hb; have BK447 := aa_ (hbox); have GW447 := gs_ hg; have GE447 := gs_ hg; replace HB := hbs_ hb; have NB442_447 := nl_ hg BK442; have NB447_442 := nr_ hg BK442; replace BK442 := bkb_ BK442 hb; clear hb hbox hg; have hnb11 := NB447_442.out; have hnc11 := NB442_447.out; obtain ⟨hcz12, hfz12⟩ := bcf_ BK447))
    (try simp only [Act.put, List.setIfInBounds_toArray, List.set_cons_zero, List.set_cons_succ])
    go_cut [25] (fun v25 wc => ∃ (kq : Nat) (x25_8 : Bool), v25 = .bool x25_8 ∧ Aside0 (impl_LeansOn.j1 kq l0 x5_1 l0 (l0.length : Int) x13_1 x25_8 a1_0 a1_1 ((rd_T46 l0 x13_1).f0) ((rd_T46 l0 x13_1).f1.f0) ((rd_T46 l0 x13_1).f1.f1) ((rd_T46 l0 x13_1).f2) ((rd_T46 l0 x13_1).f3.f0) ((rd_T46 l0 x13_1).f3.f1) ((rd_T46 l0 x13_1).f4.f0) ((rd_T46 l0 x13_1).f4.f1) ((rd_T46 l0 x13_1).f5) ((rd_T46 l0 x13_1).f6) = some r) ∧ Aside0 (kq ≤ k1) ∧ Aside0 (Kd.R k27 27 wc w.heap.size (fun k_ => k_ ≠ gb442) u5 x5_1) ∧ Aside0 (wc.heap[gb442]? = some (.cells #[.int .i64 a1_0, .int .i64 a1_1] 27 (0, 0))) ∧ Aside0 (wc.heap[gb447]? = some (.cells #[.int .i64 ((rd_T46 l0 x13_1).f0), .int .i64 ((rd_T46 l0 x13_1).f1.f0), .int .i64 ((rd_T46 l0 x13_1).f1.f1), .int .i64 ((rd_T46 l0 x13_1).f2), .int .i64 ((rd_T46 l0 x13_1).f3.f0), .int .i64 ((rd_T46 l0 x13_1).f3.f1), .int .i64 ((rd_T46 l0 x13_1).f4.f0), .int .i64 ((rd_T46 l0 x13_1).f4.f1), .int .i64 ((rd_T46 l0 x13_1).f5), .int .i64 ((rd_T46 l0 x13_1).f6)] 46 (0, 0))) ∧ Aside0 (Below w.heap.size w wc))
    case first =>
     have H := HC9.out
     clear HC9
     obtain ⟨t448, A13, H⟩ := bindE_ H
     by_cases c14 : t448 = true
     ·subst c14
      replace H := ite_t_ H
      have H' := aa_ H
      clear H
      have hnb15 := NB447_442.out
      have hnc15 := NB442_447.out
      have hcz16 := blk_cell BK447.out
      have hfz16 := blk_frozen BK447.out
      go_wp2_with (first | ((with_reducible refine gC_ 24 rfl ?_); refine goesC_ (some 18) Try.func24 #[.agg #[.int .i64 ((rd_T46 l0 x13_1).f0), .int .i64 ((rd_T46 l0 x13_1).f1.f0), .int .i64 ((rd_T46 l0 x13_1).f1.f1), .int .i64 ((rd_T46 l0 x13_1).f2), .int .i64 ((rd_T46 l0 x13_1).f3.f0), .int .i64 ((rd_T46 l0 x13_1).f3.f1), .int .i64 ((rd_T46 l0 x13_1).f4.f0), .int .i64 ((rd_T46 l0 x13_1).f4.f1), .int .i64 ((rd_T46 l0 x13_1).f5), .int .i64 ((rd_T46 l0 x13_1).f6)]] ?_; (with_reducible refine (impl_CredOk.calls k1 ((rd_T46 l0 x13_1).f0) ((rd_T46 l0 x13_1).f1.f0) ((rd_T46 l0 x13_1).f1.f1) ((rd_T46 l0 x13_1).f2) ((rd_T46 l0 x13_1).f3.f0) ((rd_T46 l0 x13_1).f3.f1) ((rd_T46 l0 x13_1).f4.f0) ((rd_T46 l0 x13_1).f4.f1) ((rd_T46 l0 x13_1).f5) ((rd_T46 l0 x13_1).f6) true _ A13.out).mono ?_); rintro e w17 ⟨rfl, hb⟩; refine ⟨_, rfl, ?_⟩; replace HO_5 := aa_ (Kd.R_below (by (with_reducible repeat (first | apply Kd.R_alloc | apply Kd.R_drewN | apply Kd.R_drew)); exact (Kd.R_mono (fr10_ (Kd.R_types HO_5.out BK447.out (by decide)) (fun _ hk => hk.2)) (fun _ h_ => h_.1))) hb); replace BK442 := aa_ (blk_below (g := gb442) (o := .cells #[.int .i64 a1_0, .int .i64 a1_1] 27 (0, 0)) (bk_ BK442) hb); replace BK447 := aa_ (blk_below (g := gb447) (o := .cells #[.int .i64 ((rd_T46 l0 x13_1).f0), .int .i64 ((rd_T46 l0 x13_1).f1.f0), .int .i64 ((rd_T46 l0 x13_1).f1.f1), .int .i64 ((rd_T46 l0 x13_1).f2), .int .i64 ((rd_T46 l0 x13_1).f3.f0), .int .i64 ((rd_T46 l0 x13_1).f3.f1), .int .i64 ((rd_T46 l0 x13_1).f4.f0), .int .i64 ((rd_T46 l0 x13_1).f4.f1), .int .i64 ((rd_T46 l0 x13_1).f5), .int .i64 ((rd_T46 l0 x13_1).f6)] 46 (0, 0)) (bk_ BK447) hb); replace HB := hbs_ hb; clear hb; obtain ⟨hcz18, hfz18⟩ := bcf_ BK447; obtain ⟨hcz19, hfz19⟩ := bcf_ BK442))
      go_meet
      case rel => exact ⟨_, ((!(((rd_T46 l0 x13_1).f1.f0) == a1_0) || (!(((rd_T46 l0 x13_1).f1.f1) == a1_1)))), rf_, H', ⟨by have := HK1.out; first | omega | exact Nat.le_refl _⟩, ⟨rr_ HO_5⟩, ⟨bk_ BK442⟩, ⟨bk_ BK447⟩, ⟨bl_⟩⟩
     ·replace c14 := Bool.eq_false_iff.mpr c14
      subst c14
      replace H := ite_f_ H
      have H' := aa_ H
      clear H
      have hnb20 := NB447_442.out
      have hnc20 := NB442_447.out
      have hcz21 := blk_cell BK447.out
      have hfz21 := blk_frozen BK447.out
      go_wp2_with (first | ((with_reducible refine gC_ 24 rfl ?_); refine goesC_ (some 18) Try.func24 #[.agg #[.int .i64 ((rd_T46 l0 x13_1).f0), .int .i64 ((rd_T46 l0 x13_1).f1.f0), .int .i64 ((rd_T46 l0 x13_1).f1.f1), .int .i64 ((rd_T46 l0 x13_1).f2), .int .i64 ((rd_T46 l0 x13_1).f3.f0), .int .i64 ((rd_T46 l0 x13_1).f3.f1), .int .i64 ((rd_T46 l0 x13_1).f4.f0), .int .i64 ((rd_T46 l0 x13_1).f4.f1), .int .i64 ((rd_T46 l0 x13_1).f5), .int .i64 ((rd_T46 l0 x13_1).f6)]] ?_; (with_reducible refine (impl_CredOk.calls k1 ((rd_T46 l0 x13_1).f0) ((rd_T46 l0 x13_1).f1.f0) ((rd_T46 l0 x13_1).f1.f1) ((rd_T46 l0 x13_1).f2) ((rd_T46 l0 x13_1).f3.f0) ((rd_T46 l0 x13_1).f3.f1) ((rd_T46 l0 x13_1).f4.f0) ((rd_T46 l0 x13_1).f4.f1) ((rd_T46 l0 x13_1).f5) ((rd_T46 l0 x13_1).f6) false _ A13.out).mono ?_); rintro e w22 ⟨rfl, hb⟩; refine ⟨_, rfl, ?_⟩; replace HO_5 := aa_ (Kd.R_below (by (with_reducible repeat (first | apply Kd.R_alloc | apply Kd.R_drewN | apply Kd.R_drew)); exact (Kd.R_mono (fr10_ (Kd.R_types HO_5.out BK447.out (by decide)) (fun _ hk => hk.2)) (fun _ h_ => h_.1))) hb); replace BK442 := aa_ (blk_below (g := gb442) (o := .cells #[.int .i64 a1_0, .int .i64 a1_1] 27 (0, 0)) (bk_ BK442) hb); replace BK447 := aa_ (blk_below (g := gb447) (o := .cells #[.int .i64 ((rd_T46 l0 x13_1).f0), .int .i64 ((rd_T46 l0 x13_1).f1.f0), .int .i64 ((rd_T46 l0 x13_1).f1.f1), .int .i64 ((rd_T46 l0 x13_1).f2), .int .i64 ((rd_T46 l0 x13_1).f3.f0), .int .i64 ((rd_T46 l0 x13_1).f3.f1), .int .i64 ((rd_T46 l0 x13_1).f4.f0), .int .i64 ((rd_T46 l0 x13_1).f4.f1), .int .i64 ((rd_T46 l0 x13_1).f5), .int .i64 ((rd_T46 l0 x13_1).f6)] 46 (0, 0)) (bk_ BK447) hb); replace HB := hbs_ hb; clear hb))
      go_meet
      case rel => exact ⟨_, (true), rf_, H', ⟨by have := HK1.out; first | omega | exact Nat.le_refl _⟩, ⟨rr_ HO_5⟩, ⟨bk_ BK442⟩, ⟨bk_ BK447⟩, ⟨bl_⟩⟩
    case rest =>
     clear HC9
     try clear c1
     try clear c2
     try clear p2
     try clear p4
     try clear q4
     try clear hx4
     try clear c6
     try clear c6b0
     try clear c7
     try clear c7b0
     try clear c8
     try clear c8b0
     try clear c11
     try clear c12
     try clear c14
     try clear c15
     try clear c20
     try clear hcz12
     try clear hcz16
     try clear hcz18
     try clear hcz19
     try clear hcz21
     try clear hfz12
     try clear hfz16
     try clear hfz18
     try clear hfz19
     try clear hfz21
     try clear hx446_0
     try clear hx446_1
     try clear hx446_2
     try clear hx446_3
     try clear hx446_4
     try clear hx446_5
     try clear hx446_6
     try clear hx446_7
     try clear hx446_8
     try clear hx446_9
     try clear p2
     try clear p446
     try clear q446
     obtain ⟨kq, x25_8, rfl, HA, HJ8, HO_5, BK442, BK447, HB⟩ := hcut
     cases kq with
     | zero => exact absurd HA.out (by simp [impl_LeansOn.j1])
     | succ kj8 =>
      have H := HA.out
      clear HA
      simp only [impl_LeansOn.j1] at H
      by_cases c23 : x25_8 = true
      ·subst c23
       replace H := ite_t_ H
       have H' := aa_ H
       clear H
       go_wp2
       go_roundg kj8
       case measure => have := HK1.out; have := HJ8.out; omega
       case rel => exact ⟨(x5_1), (wrap64 (x13_1 + 1)), rf_, H', ⟨by have := HK1.out; have := HJ8.out; omega⟩, ⟨rr_ HO_5⟩, ⟨bk_ BK442⟩, ⟨bl_⟩⟩
      ·replace c23 := Bool.eq_false_iff.mpr c23
       subst c23
       replace H := ite_f_ H
       obtain ⟨t449, A24, H⟩ := bindE_ H
       have H' := aa_ H
       clear H
       have hnb25 := NB447_442.out
       have hnc25 := NB442_447.out
       have hcz26 := blk_cell BK447.out
       have hfz26 := blk_frozen BK447.out
       go_wp2_with (first | ((with_reducible refine gC_ 27 rfl ?_); refine goesC_ (some 28) Try.func27 #[.slice (some ad446) l0.length c0, .agg #[.int .i64 ((rd_T46 l0 x13_1).f0), .int .i64 ((rd_T46 l0 x13_1).f1.f0), .int .i64 ((rd_T46 l0 x13_1).f1.f1), .int .i64 ((rd_T46 l0 x13_1).f2), .int .i64 ((rd_T46 l0 x13_1).f3.f0), .int .i64 ((rd_T46 l0 x13_1).f3.f1), .int .i64 ((rd_T46 l0 x13_1).f4.f0), .int .i64 ((rd_T46 l0 x13_1).f4.f1), .int .i64 ((rd_T46 l0 x13_1).f5), .int .i64 ((rd_T46 l0 x13_1).f6)]] ?_; (with_reducible refine (impl_leads.calls kj8 _ _ l0 ((rd_T46 l0 x13_1).f0) ((rd_T46 l0 x13_1).f1.f0) ((rd_T46 l0 x13_1).f1.f1) ((rd_T46 l0 x13_1).f2) ((rd_T46 l0 x13_1).f3.f0) ((rd_T46 l0 x13_1).f3.f1) ((rd_T46 l0 x13_1).f4.f0) ((rd_T46 l0 x13_1).f4.f1) ((rd_T46 l0 x13_1).f5) ((rd_T46 l0 x13_1).f6) t449 _ ?side1 ?side2 A24.out).mono ?_); (case side1 => repeat (first | exact (Kd.C_below HR0.out HB.out) | (with_reducible refine Kd.C_alloc ?_ _) | (with_reducible refine Kd.C_drewN ?_ _) | (with_reducible refine Kd.C_drew ?_))); (case side2 => exact HC0.out); rintro e w27 ⟨v450, rfl, ho0, hb⟩; refine ⟨_, rfl, ?_⟩; have HO451 := aa_ (Kd.R_lower (Kd.R_newB (Kd.R_new' ho0 (Kd.R_lt (rr_ HO_5))) (g := gb442) (o := .cells #[.int .i64 a1_0, .int .i64 a1_1] 27 (0, 0)) (bk_ BK442)) bls_); replace HO_5 := aa_ (Kd.R_elder' (rr_ HO_5) (Kd.R_base ho0) hb); replace BK442 := bkb_ BK442 hb; replace BK447 := bkb_ BK447 hb; replace HB := hbs_ hb; (try clear hb ho0); obtain ⟨Ao28, co28, eo28⟩ := Kd.R_slice HO451.out; subst eo28))
       go_loopg [5, 30] kj8 (fun kq v5 v30 w' => ∃ (x5_3 : List (S27)) (x30_3 : Int), v30 = .int .i64 x30_3 ∧ Aside0 (impl_LeansOn.l1 kq l0 x5_3 l0 (l0.length : Int) x13_1 t449 (t449.length : Int) x30_3 a1_0 a1_1 = some r) ∧ Aside0 (kq ≤ kj8) ∧ Aside0 (Kd.R k27 27 w' w.heap.size (fun k_ => some k_ ≠ ((.slice Ao28 t449.length co28) : Value).ownBlock ∧ k_ ≠ gb442) v5 x5_3) ∧ Aside0 (Kd.R k27 27 w' w.heap.size (fun k_ => some k_ ≠ (v5 : Value).ownBlock ∧ k_ ≠ gb442) (.slice Ao28 t449.length co28) t449) ∧ Aside0 (w'.heap[gb442]? = some (.cells #[.int .i64 a1_0, .int .i64 a1_1] 27 (0, 0))) ∧ Aside0 (w'.heap[gb447]? = some (.cells #[.int .i64 ((rd_T46 l0 x13_1).f0), .int .i64 ((rd_T46 l0 x13_1).f1.f0), .int .i64 ((rd_T46 l0 x13_1).f1.f1), .int .i64 ((rd_T46 l0 x13_1).f2), .int .i64 ((rd_T46 l0 x13_1).f3.f0), .int .i64 ((rd_T46 l0 x13_1).f3.f1), .int .i64 ((rd_T46 l0 x13_1).f4.f0), .int .i64 ((rd_T46 l0 x13_1).f4.f1), .int .i64 ((rd_T46 l0 x13_1).f5), .int .i64 ((rd_T46 l0 x13_1).f6)] 46 (0, 0))) ∧ Aside0 (Below w.heap.size w w'))
       case atStart => exact ⟨(x5_1), (0), rf_, H', ⟨Nat.le_refl _⟩, ⟨by (with_reducible repeat (first | apply Kd.R_alloc | apply Kd.R_drewN | apply Kd.R_drew)); exact Kd.R_mono HO_5.out (fun _ hk => ⟨hk.2, hk.1⟩)⟩, ⟨by (with_reducible repeat (first | apply Kd.R_alloc | apply Kd.R_drewN | apply Kd.R_drew)); exact Kd.R_mono HO451.out (fun _ hk => ⟨hk.1.2, hk.2⟩)⟩, ⟨bk_ BK442⟩, ⟨bk_ BK447⟩, ⟨bl_⟩⟩
       case round =>
        clear H'
        try clear c1
        try clear c2
        try clear p2
        try clear p4
        try clear q4
        try clear hx4
        try clear c6
        try clear c6b0
        try clear p6
        try clear c7
        try clear c7b0
        try clear c8
        try clear c8b0
        try clear c11
        try clear c12
        try clear c14
        try clear c15
        try clear c20
        try clear c23
        try clear c24
        try clear c25
        try clear c27
        try clear hcz12
        try clear hcz16
        try clear hcz18
        try clear hcz19
        try clear hcz21
        try clear hcz26
        try clear hfz12
        try clear hfz16
        try clear hfz18
        try clear hfz19
        try clear hfz21
        try clear hfz26
        try clear hx446_0
        try clear hx446_1
        try clear hx446_2
        try clear hx446_3
        try clear hx446_4
        try clear hx446_5
        try clear hx446_6
        try clear hx446_7
        try clear hx446_8
        try clear hx446_9
        try clear p2
        try clear p4
        try clear p446
        try clear q4
        try clear q446
        obtain ⟨x5_3, x30_3, rfl, HA, HK3, HO_5, HO_28, BK442, BK447, HB⟩ := hrel
        cases gk with
        | zero => exact absurd HA.out (by simp [impl_LeansOn.l1])
        | succ k3 =>
         have H := HA.out
         clear HA
         simp only [impl_LeansOn.l1] at H
         by_cases c29 : x30_3 < (t449.length : Int)
         ·rw [if_pos c29] at H
          have c29b0 : decide (x30_3 < (t449.length : Int)) = true := decide_eq_true c29
          clear c29
          obtain ⟨c30b0, H⟩ := ifd_ H
          obtain ⟨c31b0, H⟩ := ifd_ H
          obtain ⟨t454, A32, H⟩ := bindE_ H
          have HC33 := aa_ H
          clear H
          have p452 : 0 ≤ (x30_3 : Int) := od_
          have q452 : x30_3 < (t449.length : Int) := od_
          obtain ⟨ad452, e452, hx452_0, hx452_1⟩ := at_T27 (Kd.R_reads' HO_28.out).2.2 x30_3 p452 q452
          cases e452
          replace p452 := eq_true p452
          replace q452 := eq_true q452
          go_upto_if 37 with (first | ((with_reducible refine gD_ 9 rfl ?_); refine bx_ (N := 9) (cs := #[.int .i64 0, .int .i64 0]) (t := 27) ?_; intro gb453 hg w34 hbox hb; replace HO_5 := aa_ (Kd.R_below (Kd.R_elderB (rr_ HO_5) gb453 (Nat.le_of_eq hg.symm)) hb); replace HO_28 := aa_ (Kd.R_below (Kd.R_elderB (rr_ HO_28) gb453 (Nat.le_of_eq hg.symm)) hb); have BK453 := aa_ (hbox); have GW453 := gs_ hg; have GE453 := gs_ hg; replace HB := hbs_ hb; have NB442_453 := nl_ hg BK442; have NB453_442 := nr_ hg BK442; replace BK442 := bkb_ BK442 hb; have NB447_453 := nl_ hg BK447; have NB453_447 := nr_ hg BK447; replace BK447 := bkb_ BK447 hb; clear hb hbox hg; have hnb35 := NB453_442.out; have hnc35 := NB442_453.out; have hnb36 := NB453_447.out; have hnc36 := NB447_453.out; obtain ⟨hcz37, hfz37⟩ := bcf_ BK453; obtain ⟨Ao38, co38, eo38⟩ := Kd.R_slice HO_5.out; subst eo38) | ((with_reducible refine gC_ 25 rfl ?_); refine goesC_ (some 36) Try.func25 #[.slice Ao38 x5_3.length co38, .agg #[.int .i64 ((rd_T27 t449 x30_3).f0), .int .i64 ((rd_T27 t449 x30_3).f1)]] ?_; (with_reducible refine (impl_Role_25.calls k3 _ _ x5_3 ((rd_T27 t449 x30_3).f0) ((rd_T27 t449 x30_3).f1) t454 _ ?side1 ?side2 A32.out).mono ?_); (case side1 => refine (Kd.R_reads' (e := 27) (base := w.heap.size) (ok := fun k_ => ((some k_ ≠ (.slice (some ad452) t449.length co28 : Value).ownBlock ∧ k_ ≠ gb442) ∧ k_ ≠ gb453)) (n := x5_3.length) (c := co38) ?_).2.2; exact (by (with_reducible repeat (first | apply Kd.R_alloc | apply Kd.R_drewN | apply Kd.R_drew)); exact (Kd.R_mono (fr2_ (Kd.R_mono HO_5.out (fun k_ hk => (⟨hk, hk.2⟩ : _ ∧ k_ ≠ gb453))) (fun _ hk => hk.2)) (fun _ h_ => h_.1)))); (case side2 => exact (Kd.R_reads' HO_5.out).2.1); rintro e w39 ⟨rfl, hb⟩; refine ⟨_, rfl, ?_⟩; replace HO_5 := aa_ (Kd.R_below (by (with_reducible repeat (first | apply Kd.R_alloc | apply Kd.R_drewN | apply Kd.R_drew)); exact (Kd.R_mono (fr2_ (Kd.R_mono HO_5.out (fun k_ hk => (⟨hk, hk.2⟩ : _ ∧ k_ ≠ gb453))) (fun _ hk => hk.2)) (fun _ h_ => h_.1))) hb); replace HO_28 := aa_ (Kd.R_below (by (with_reducible repeat (first | apply Kd.R_alloc | apply Kd.R_drewN | apply Kd.R_drew)); exact (Kd.R_mono (fr2_ (Kd.R_mono HO_28.out (fun k_ hk => (⟨hk, hk.2⟩ : _ ∧ k_ ≠ gb453))) (fun _ hk => hk.2)) (fun _ h_ => h_.1))) hb); replace BK442 := aa_ (blk_below (g := gb442) (o := .cells #[.int .i64 a1_0, .int .i64 a1_1] 27 (0, 0)) (bk_ BK442) hb); replace BK447 := aa_ (blk_below (g := gb447) (o := .cells #[.int .i64 ((rd_T46 l0 x13_1).f0), .int .i64 ((rd_T46 l0 x13_1).f1.f0), .int .i64 ((rd_T46 l0 x13_1).f1.f1), .int .i64 ((rd_T46 l0 x13_1).f2), .int .i64 ((rd_T46 l0 x13_1).f3.f0), .int .i64 ((rd_T46 l0 x13_1).f3.f1), .int .i64 ((rd_T46 l0 x13_1).f4.f0), .int .i64 ((rd_T46 l0 x13_1).f4.f1), .int .i64 ((rd_T46 l0 x13_1).f5), .int .i64 ((rd_T46 l0 x13_1).f6)] 46 (0, 0)) (bk_ BK447) hb); replace BK453 := aa_ (blk_below (g := gb453) (o := .cells #[.int .i64 ((rd_T27 t449 x30_3).f0), .int .i64 ((rd_T27 t449 x30_3).f1)] 27 (0, 0)) (bk_ BK453) hb); replace HB := hbs_ hb; clear hb))
          (try simp only [Act.put, List.setIfInBounds_toArray, List.set_cons_zero, List.set_cons_succ])
          have H := HC33.out
          clear HC33
          by_cases c40 : t454 = true
          ·subst c40
           replace H := ite_t_ H
           have H' := aa_ H
           clear H
           go_wp2
           go_roundg k3
           case measure => have := HK1.out; have := HJ8.out; have := HK3.out; omega
           case rel => exact ⟨(x5_3), (wrap64 (x30_3 + 1)), rf_, H', ⟨by have := HK1.out; have := HJ8.out; have := HK3.out; omega⟩, ⟨by (with_reducible repeat (first | apply Kd.R_alloc | apply Kd.R_drewN | apply Kd.R_drew)); exact Kd.R_mono HO_5.out (fun _ hk => ⟨hk.1.1, hk.1.2⟩)⟩, ⟨by (with_reducible repeat (first | apply Kd.R_alloc | apply Kd.R_drewN | apply Kd.R_drew)); exact Kd.R_mono HO_28.out (fun _ hk => ⟨hk.1.1, hk.1.2⟩)⟩, ⟨bk_ BK442⟩, ⟨bk_ BK447⟩, ⟨bl_⟩⟩
          ·replace c40 := Bool.eq_false_iff.mpr c40
           subst c40
           replace H := ite_f_ H
           obtain ⟨c41, H⟩ := ifn_ H
           have LMc41 := aa_ c41
           clear c41
           obtain ⟨y455, hy455⟩ : ∃ y_ : List (S27), y_ = (x5_3 ++ [(⟨(rd_T27 t449 x30_3).f0, (rd_T27 t449 x30_3).f1⟩ : S27)]) := ⟨_, rfl⟩
           replace H : (impl_LeansOn.l1 k3 l0 y455 l0 (l0.length : Int) x13_1 t449 (t449.length : Int) (wrap64 (x30_3 + 1)) a1_0 a1_1) = some r := rh_ hy455 H
           have Ny455 := aa_ hy455
           clear hy455
           have H' := aa_ H
           clear H
           have hnb42 := NB453_442.out
           have hnc42 := NB442_453.out
           have hnb43 := NB453_447.out
           have hnc43 := NB447_453.out
           have hcz44 := blk_cell BK453.out
           have hfz44 := blk_frozen BK453.out
           go_wp2_with (first | ((with_reducible refine gate_builtin (b := .append) (xs := #[.tmp 38, .tmp 40]) rfl ?_); at_builtin; refine Kd.R_append k27 (w0 := w) w.heap.size rfl (.tmp 38) (.tmp 40) 37 27 (.agg #[(.int .i64 0), (.int .i64 0)]) 16 rfl Try.underlying37 info27 rfl (by decide) (by omega) (.slice Ao38 x5_3.length co38) x5_3 (⟨(rd_T27 t449 x30_3).f0, (rd_T27 t449 x30_3).f1⟩ : S27) [.int .i64 ((rd_T27 t449 x30_3).f0), .int .i64 ((rd_T27 t449 x30_3).f1)] (fun k_ => some k_ ≠ (.slice (some ad452) t449.length co28 : Value).ownBlock ∧ k_ ≠ gb442 ∧ k_ ≠ gb453) (fun _ => False) rfl rfl ?aP (fun _ hk => hk.elim) ?aF ?aO ?aB ?aS ?aL ?_; (case aP => exact k27_mkM _ _ _ (⟨(rd_T27 t449 x30_3).f0, (rd_T27 t449 x30_3).f1⟩ : S27)); (case aB => exact bl_); (case aF => exact (fun k_ hk => ⟨Kd.fresh' (Kd.R_lt (rr_ HO_28)) k_ hk, Kd.freshB (g := gb442) (o := .cells #[.int .i64 a1_0, .int .i64 a1_1] 27 (0, 0)) (bk_ BK442) k_ hk, Kd.freshB (g := gb453) (o := .cells #[.int .i64 ((rd_T27 t449 x30_3).f0), .int .i64 ((rd_T27 t449 x30_3).f1)] 27 (0, 0)) (bk_ BK453) k_ hk⟩)); (case aO => exact (by (with_reducible repeat (first | apply Kd.R_alloc | apply Kd.R_drewN | apply Kd.R_drew)); exact Kd.R_mono HO_5.out (fun _ hk => ⟨hk.1.1, ⟨hk.1.2, hk.2⟩⟩))); (case aS => exact bls_); (case aL => have := LMc41.out; omega); intro v456 w45 ho hb hg hat; rw [← Ny455.out] at ho; replace HO_28 := aa_ (Kd.R_after (ok := (fun k_ => k_ ≠ gb442 ∧ k_ ≠ gb453)) (by (with_reducible repeat (first | apply Kd.R_alloc | apply Kd.R_drewN | apply Kd.R_drew)); exact Kd.R_mono HO_28.out (fun _ hk => ⟨⟨hk.1.2, hk.2⟩, hk.1.1⟩)) hg hat); replace BK442 := aa_ (blk_grown (g := gb442) (o := .cells #[.int .i64 a1_0, .int .i64 a1_1] 27 (0, 0)) (bk_ BK442) hg (Kd.R_away HO_5.out (fun _ hk => hk.1.2))); replace BK447 := aa_ (blk_grown (g := gb447) (o := .cells #[.int .i64 ((rd_T46 l0 x13_1).f0), .int .i64 ((rd_T46 l0 x13_1).f1.f0), .int .i64 ((rd_T46 l0 x13_1).f1.f1), .int .i64 ((rd_T46 l0 x13_1).f2), .int .i64 ((rd_T46 l0 x13_1).f3.f0), .int .i64 ((rd_T46 l0 x13_1).f3.f1), .int .i64 ((rd_T46 l0 x13_1).f4.f0), .int .i64 ((rd_T46 l0 x13_1).f4.f1), .int .i64 ((rd_T46 l0 x13_1).f5), .int .i64 ((rd_T46 l0 x13_1).f6)] 46 (0, 0)) (bk_ BK447) hg (Kd.R_ne HO_5.out BK447.out (by decide))); replace BK453 := aa_ (blk_grown (g := gb453) (o := .cells #[.int .i64 ((rd_T27 t449 x30_3).f0), .int .i64 ((rd_T27 t449 x30_3).f1)] 27 (0, 0)) (bk_ BK453) hg (Kd.R_away HO_5.out (fun _ hk => hk.2))); replace HB := aa_ (hb); have HO457 := aa_ (ho); clear HO_5; clear ho hb hg hat))
           go_roundg k3
           case measure => have := HK1.out; have := HJ8.out; have := HK3.out; omega
           case rel => exact ⟨(y455), (wrap64 (x30_3 + 1)), rf_, H', ⟨by have := HK1.out; have := HJ8.out; have := HK3.out; omega⟩, ⟨by (with_reducible repeat (first | apply Kd.R_alloc | apply Kd.R_drewN | apply Kd.R_drew)); exact Kd.R_mono HO457.out (fun _ hk => ⟨hk.1, hk.2.1⟩)⟩, ⟨by (with_reducible repeat (first | apply Kd.R_alloc | apply Kd.R_drewN | apply Kd.R_drew)); exact Kd.R_mono HO_28.out (fun _ hk => ⟨hk.2, hk.1.1⟩)⟩, ⟨bk_ BK442⟩, ⟨bk_ BK447⟩, ⟨bl_⟩⟩
         ·rw [if_neg c29] at H
          have c29b0 : decide (x30_3 < (t449.length : Int)) = false := decide_eq_false c29
          clear c29
          have H' := aa_ H
          clear H
          go_wp2
          go_roundg k3
          case measure => have := HK1.out; have := HJ8.out; have := HK3.out; omega
          case rel => exact ⟨(x5_3), (wrap64 (x13_1 + 1)), rf_, H', ⟨by have := HK1.out; have := HJ8.out; have := HK3.out; omega⟩, ⟨by (with_reducible repeat (first | apply Kd.R_alloc | apply Kd.R_drewN | apply Kd.R_drew)); exact Kd.R_mono HO_5.out (fun _ hk => hk.2)⟩, ⟨bk_ BK442⟩, ⟨bl_⟩⟩
   ·rw [if_neg c6] at H
    have c6b0 : decide (x13_1 < (l0.length : Int)) = false := decide_eq_false c6
    clear c6
    obtain rfl := Option.some.inj H
    go_wp2
    go_ret
    exact ⟨_, eq_, by (with_reducible repeat (first | apply Kd.R_alloc | apply Kd.R_drewN | apply Kd.R_drew)); exact Kd.R_mono HO_5.out (fun _ hk => trivial), bl_⟩
end Go.Proofs.Ytcbhmcpdnokbiaa.PA
