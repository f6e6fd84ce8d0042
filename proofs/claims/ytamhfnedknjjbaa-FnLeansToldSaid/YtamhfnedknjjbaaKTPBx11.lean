import Derived.Test.YtamhfnedknjjbaaKTPBx10
-- printed by wip/tools
namespace Go.Proofs.Ytamhfnedknjjbaa.PB
open Go.RowKit Go.Proofs.YtamhfnedknjjbaaW.PrintWords Go.Proofs.YtamhfnedknjjbaaW.PrintLast Go.Proofs.YtamhfnedknjjbaaW.PrintMore
attribute [local go_sem] max2_int min2_int max_two min_two max_three min_three max_four min_four
set_option linter.unusedVariables false
set_option linter.unusedSimpArgs false
attribute [local go_sem high] eqA26
def impl_MembersOf.l0 : Nat → List Int → List (S58) → Int → Int → Int → Int → Option (List Int)
 | 0, _, _, _, _, _, _ => none
 | k + 1, x5, x10, x11, x12, x447000, x447001 => if x12 < x11 then (if 0 ≤ x12 then (if x12 < (x10.length : Int) then (if (((rd_T58 x10 x12).f0.f0) == x447000 && (((rd_T58 x10 x12).f0.f1) == x447001)) = true then (if x5.length < 17592186044416 then (impl_MembersOf.l0 k (x5 ++ [(rd_T58 x10 x12).f1]) x10 x11 (wrap64 (x12 + 1)) x447000 x447001) else (none)) else (impl_MembersOf.l0 k x5 x10 x11 (wrap64 (x12 + 1)) x447000 x447001)) else (none)) else (none)) else ((slices_Sort_int_int.f x5).bind fun t458 => (some t458))
def impl_MembersOf.f (k : Nat) (l0 : List (S49)) (a1_0 : Int) (a1_1 : Int) : Option (List Int) := (impl_FactsOf.f k l0).bind fun t450 => (impl_MembersOf.l0 k (([] : List Int)) t450 (t450.length : Int) 0 a1_0 a1_1)
set_option maxHeartbeats 8000000 in
set_option maxRecDepth 100000 in
theorem impl_MembersOf.calls (k : Nat) (A0 : Option Addr) (c0 : Nat) (l0 : List (S49)) (a1_0 : Int) (a1_1 : Int) (r : List Int) (w : World) (hr0 : Kd.C k49 w A0 l0.length l0) (hc0 : l0.length ≤ c0) (h : impl_MembersOf.f k l0 a1_0 a1_1 = some r) :
  Calls Try.prog 50 #[.slice A0 l0.length c0, .agg #[.int .i64 a1_0, .int .i64 a1_1]] w fun e w' => ∃ v0_ : Value, e = .returned (v0_) ∧ Kd.R (Kd.int .i64) 3 w' w.heap.size (fun _ => True) v0_ r ∧ Below w.heap.size w w' := by
 have hu26 := Try.underlying26
 have hu58 := Try.underlying58
 have HR0 := Aside0.mk hr0
 have HC0 := Aside0.mk hc0
 clear hr0 hc0
 have HB := Aside0.mk (Below.refl w.heap.size w)
 have H : ((impl_FactsOf.f k l0).bind fun t450 => (impl_MembersOf.l0 k (([] : List Int)) t450 (t450.length : Int) 0 a1_0 a1_1)) = some r := h
 clear h
 obtain ⟨y447, hy447⟩ : ∃ y_ : List Int, y_ = (([] : List Int)) := ⟨_, rfl⟩
 replace H : ((impl_FactsOf.f k l0).bind fun t450 => (impl_MembersOf.l0 k y447 t450 (t450.length : Int) 0 a1_0 a1_1)) = some r := rh_ hy447 H
 have Ny447 := Aside0.mk hy447
 clear hy447
 obtain ⟨t450, A3, H⟩ := bindE_ H
 have H' := Aside0.mk H
 clear H
 go_enter Try.func50, Try.ntmps50
 go_wp2_with (first | ((with_reducible refine gate_dst (N := 3) rfl ?_); refine box_event ?hg (N := 3) ?hd (cs := #[.int .i64 a1_0, .int .i64 a1_1]) (t := 26) ?hr ?_; (case hd => rfl); (case hg => rfl); (case hr => first | (go_simp; done) | (go_simp; rfl)); intro gb446 hg w4 hbox hb; have BK446 := Aside0.mk (hbox); have GW446 := gs_ hg; have GE446 := gs_ hg; replace HB := hbs_ hb; clear hb hbox hg) | ((with_reducible refine gate_dst (N := 8) rfl ?_); refine Kd.R_lit (Kd.int .i64) _ 3 ?hg (N := 8) ?hd (xs := ([] : List Int)) (inner := []) (ok := fun _ => True) (okp := fun _ => True) ?hr ?hp (fun _ hk => hk) trivial (Below.refl _ _) (Nat.le_refl _) (by simp) ?_; (case hd => rfl); (case hg => rfl); (case hr => first | (go_simp; done) | (go_simp; rfl)); (case hp => exact (Reps.none _ _)); intro v448 w5 ho6 hb hg_ hnew_; clear hg_ hnew_; (first | rw [← Ny447.out] at ho6 | (simp only [Int.reduceToNat] at ho6; rw [← Ny447.out] at ho6)); have HO449 := Aside0.mk (Kd.R_lower ho6 bls_); replace BK446 := bkb_ BK446 hb; replace HB := hbs_ hb; clear hb ho6) | ((with_reducible refine gate_callee (f := 56) rfl ?_); refine goesC_ (some 10) Try.func56 #[.slice A0 l0.length c0] ?_; (with_reducible refine (impl_FactsOf.calls k _ _ l0 t450 _ ?side1 ?side2 A3.out).mono ?_); (case side1 => repeat (first | exact (Kd.C_below HR0.out HB.out) | (with_reducible refine Kd.C_alloc ?_ _) | (with_reducible refine Kd.C_drewN ?_ _) | (with_reducible refine Kd.C_drew ?_))); (case side2 => exact HC0.out); rintro e w7 ⟨v451, rfl, ho0, hb⟩; refine ⟨_, rfl, ?_⟩; replace HO449 := hob_ HO449 hb; have HO452 := Aside0.mk (Kd.R_lower ho0 bls_); replace BK446 := bkb_ BK446 hb; replace HB := hbs_ hb; (try clear hb ho0); obtain ⟨Ao8, co8, eo8⟩ := Kd.R_slice HO452.out; subst eo8))
 go_loopg [5, 12] k (fun kq v5 v12 w' => ∃ (x5_1 : List Int) (x12_1 : Int), v12 = .int .i64 x12_1 ∧ Aside0 (impl_MembersOf.l0 kq x5_1 t450 (t450.length : Int) x12_1 a1_0 a1_1 = some r) ∧ Aside0 (kq ≤ k) ∧ Aside0 (Kd.R (Kd.int .i64) 3 w' w.heap.size (fun _ => True) v5 x5_1) ∧ Aside0 (Kd.R k58 58 w' w.heap.size (fun _ => True) (.slice Ao8 t450.length co8) t450) ∧ Aside0 (w'.heap[gb446]? = some (.cells #[.int .i64 a1_0, .int .i64 a1_1] 26 (0, 0))) ∧ Aside0 (Below w.heap.size w w'))
 case atStart => exact ⟨(y447), (0), rf_, H', ⟨Nat.le_refl _⟩, ⟨rr_ HO449⟩, ⟨rr_ HO452⟩, ⟨bk_ BK446⟩, ⟨bl_⟩⟩
 case round =>
  clear H'
  try clear p2
  try clear c5
  obtain ⟨x5_1, x12_1, rfl, HA, HK1, HO_5, HO_10, BK446, HB⟩ := hrel
  cases gk with
  | zero => exact absurd HA.out (by simp [impl_MembersOf.l0])
  | succ k1 =>
   have H := HA.out
   clear HA
   simp only [impl_MembersOf.l0] at H
   by_cases c9 : x12_1 < (t450.length : Int)
   ·rw [if_pos c9] at H
    have c9b0 : decide (x12_1 < (t450.length : Int)) = true := decide_eq_true c9
    clear c9
    obtain ⟨c10b0, H⟩ := ifd_ H
    obtain ⟨c11b0, H⟩ := ifd_ H
    have HC12 := Aside0.mk H
    clear H
    have p453 : 0 ≤ (x12_1 : Int) := od_
    have q453 : x12_1 < (t450.length : Int) := od_
    obtain ⟨ad453, e453, hx453_0, hx453_1, hx453_2⟩ := at_T58 (Kd.R_reads' HO_10.out).2.2 x12_1 p453 q453
    cases e453
    replace p453 := eq_true p453
    replace q453 := eq_true q453
    go_upto_if 19 with (first | ((with_reducible refine gate_dst (N := 7) rfl ?_); refine box_event ?hg (N := 7) ?hd (cs := #[.int .i64 0, .int .i64 0, .int .i64 0]) (t := 58) ?hr ?_; (case hd => rfl); (case hg => rfl); (case hr => first | (go_simp; done) | (go_simp; rfl)); intro gb454 hg w13 hbox hb; replace HO_5 := hob_ HO_5 hb; replace HO_10 := Aside0.mk (Kd.R_below (Kd.R_elderB (rr_ HO_10) gb454 (Nat.le_of_eq hg.symm)) hb); have BK454 := Aside0.mk (hbox); have GW454 := gs_ hg; have GE454 := gs_ hg; replace HB := hbs_ hb; have NB446_454 := nl_ hg BK446; have NB454_446 := nr_ hg BK446; replace BK446 := bkb_ BK446 hb; clear hb hbox hg; have hnb14 := NB454_446.out; have hnc14 := NB446_454.out; obtain ⟨hcz15, hfz15⟩ := bcf_ BK454; obtain ⟨hcz16, hfz16⟩ := bcf_ BK446))
    have n0_ : Aside0 (Kd.R (Kd.int .i64) 3 (((w13.setCell ⟨gb454, 0, none⟩ (.int .i64 ((rd_T58 t450 x12_1).f0.f0))).setCell ⟨gb454, 1, none⟩ (.int .i64 ((rd_T58 t450 x12_1).f0.f1))).setCell ⟨gb454, 2, none⟩ (.int .i64 ((rd_T58 t450 x12_1).f1))) w.heap.size (fun _ => True) u5 x5_1) := ⟨by (with_reducible repeat (first | apply Kd.R_alloc | apply Kd.R_drewN | apply Kd.R_drew)); exact Kd.R_mono (fr3_ (Kd.R_types HO_5.out BK454.out (by decide)) (fun _ hk => hk.2)) (fun _ hk => trivial)⟩
    have n1_ : Aside0 (Kd.R k58 58 (((w13.setCell ⟨gb454, 0, none⟩ (.int .i64 ((rd_T58 t450 x12_1).f0.f0))).setCell ⟨gb454, 1, none⟩ (.int .i64 ((rd_T58 t450 x12_1).f0.f1))).setCell ⟨gb454, 2, none⟩ (.int .i64 ((rd_T58 t450 x12_1).f1))) w.heap.size (fun k_ => k_ ≠ gb454) (.slice (some ad453) t450.length co8) t450) := ⟨by (with_reducible repeat (first | apply Kd.R_alloc | apply Kd.R_drewN | apply Kd.R_drew)); exact Kd.R_mono (fr3_ (Kd.R_mono HO_10.out (fun k_ hk => (⟨hk, hk.2⟩ : _ ∧ k_ ≠ gb454))) (fun _ hk => hk.2)) (fun _ hk => hk.1.2)⟩
    have n2_ : Aside0 ((((w13.setCell ⟨gb454, 0, none⟩ (.int .i64 ((rd_T58 t450 x12_1).f0.f0))).setCell ⟨gb454, 1, none⟩ (.int .i64 ((rd_T58 t450 x12_1).f0.f1))).setCell ⟨gb454, 2, none⟩ (.int .i64 ((rd_T58 t450 x12_1).f1))).heap[gb446]? = some (.cells #[.int .i64 a1_0, .int .i64 a1_1] 26 (0, 0))) := ⟨bk_ BK446⟩
    have n3_ : Aside0 ((((w13.setCell ⟨gb454, 0, none⟩ (.int .i64 ((rd_T58 t450 x12_1).f0.f0))).setCell ⟨gb454, 1, none⟩ (.int .i64 ((rd_T58 t450 x12_1).f0.f1))).setCell ⟨gb454, 2, none⟩ (.int .i64 ((rd_T58 t450 x12_1).f1))).heap[gb454]? = some (.cells #[.int .i64 ((rd_T58 t450 x12_1).f0.f0), .int .i64 ((rd_T58 t450 x12_1).f0.f1), .int .i64 ((rd_T58 t450 x12_1).f1)] 58 (0, 0))) := ⟨bk_ BK454⟩
    have n4_ : Aside0 (Below w.heap.size w (((w13.setCell ⟨gb454, 0, none⟩ (.int .i64 ((rd_T58 t450 x12_1).f0.f0))).setCell ⟨gb454, 1, none⟩ (.int .i64 ((rd_T58 t450 x12_1).f0.f1))).setCell ⟨gb454, 2, none⟩ (.int .i64 ((rd_T58 t450 x12_1).f1)))) := ⟨bl_⟩
    (try clear HO_5)
    (try clear HO_10)
    (try clear BK446)
    (try clear BK454)
    (try clear HB)
    generalize (((w13.setCell ⟨gb454, 0, none⟩ (.int .i64 ((rd_T58 t450 x12_1).f0.f0))).setCell ⟨gb454, 1, none⟩ (.int .i64 ((rd_T58 t450 x12_1).f0.f1))).setCell ⟨gb454, 2, none⟩ (.int .i64 ((rd_T58 t450 x12_1).f1))) = w17 at n0_ n1_ n2_ n3_ n4_ ⊢
    have HO_5 := n0_
    have HO_10 := n1_
    have BK446 := n2_
    have BK454 := n3_
    have HB := n4_
    clear n0_ n1_ n2_ n3_ n4_
    (try simp only [Act.put, List.setIfInBounds_toArray, List.set_cons_zero, List.set_cons_succ])
    have H := HC12.out
    clear HC12
    by_cases c18 : (((rd_T58 t450 x12_1).f0.f0) == a1_0 && (((rd_T58 t450 x12_1).f0.f1) == a1_1)) = true
    ·rw [if_pos c18] at H
     have c18b0 : (((rd_T58 t450 x12_1).f0.f0) == a1_0 && (((rd_T58 t450 x12_1).f0.f1) == a1_1)) = true := c18
     (try (have c18b1 : decide (((rd_T58 t450 x12_1).f0.f0) = a1_0 && (((rd_T58 t450 x12_1).f0.f1) == a1_1)) = true := by simpa using c18))
     (try (have c18b2 : (((rd_T58 t450 x12_1).f0.f0) == a1_0 && (((rd_T58 t450 x12_1).f0.f1) == a1_1)) = true := by simpa using c18))
     clear c18
     (first | rw [c18b0] | (simp only [i64_w, i32_w]; rw [c18b0]) | skip)
     obtain ⟨c19, H⟩ := ifn_ H
     have LMc19 := Aside0.mk c19
     clear c19
     obtain ⟨y455, hy455⟩ : ∃ y_ : List Int, y_ = (x5_1 ++ [(rd_T58 t450 x12_1).f1]) := ⟨_, rfl⟩
     replace H : (impl_MembersOf.l0 k1 y455 t450 (t450.length : Int) (wrap64 (x12_1 + 1)) a1_0 a1_1) = some r := rh_ hy455 H
     have Ny455 := Aside0.mk hy455
     clear hy455
     have H' := Aside0.mk H
     clear H
     have hnb20 := NB454_446.out
     have hnc20 := NB446_454.out
     have hcz21 := blk_cell BK454.out
     have hfz21 := blk_frozen BK454.out
     go_wp2_with (first | ((with_reducible refine gate_builtin (b := .append) (xs := #[.tmp 20, .tmp 23]) rfl ?_); at_builtin; refine Kd.R_append (Kd.int .i64) (w0 := w) w.heap.size rfl (.tmp 20) (.tmp 23) 42 3 (.int .i64 0) 8 rfl Try.underlying42 info3 rfl (by decide) (by omega) u5 x5_1 ((rd_T58 t450 x12_1).f1) [.int .i64 ((rd_T58 t450 x12_1).f1)] (fun _ => True) (fun _ => False) rfl rfl ?aP (fun _ hk => hk.elim) ?aF ?aO ?aB ?aS ?aL ?_; (case aP => exact rfl); (case aB => exact bl_); (case aF => exact (fun _ _ => trivial)); (case aO => exact (rr_ HO_5)); (case aS => exact bls_); (case aL => have := LMc19.out; omega); intro v456 w22 ho hb hg hat; rw [← Ny455.out] at ho; replace HO_10 := Aside0.mk (Kd.R_over' (rr_ HO_10) (Kd.R_typed (rr_ HO_5)) (by decide) hg); replace BK446 := Aside0.mk (blk_grown (g := gb446) (o := .cells #[.int .i64 a1_0, .int .i64 a1_1] 26 (0, 0)) (bk_ BK446) hg (Kd.R_ne HO_5.out BK446.out (by decide))); replace BK454 := Aside0.mk (blk_grown (g := gb454) (o := .cells #[.int .i64 ((rd_T58 t450 x12_1).f0.f0), .int .i64 ((rd_T58 t450 x12_1).f0.f1), .int .i64 ((rd_T58 t450 x12_1).f1)] 58 (0, 0)) (bk_ BK454) hg (Kd.R_ne HO_5.out BK454.out (by decide))); replace HB := Aside0.mk (hb); have HO457 := Aside0.mk (ho); clear HO_5; clear ho hb hg hat))
     go_roundg k1
     case measure => have := HK1.out; omega
     case rel => exact ⟨(y455), (wrap64 (x12_1 + 1)), rf_, H', ⟨by have := HK1.out; omega⟩, ⟨rr_ HO457⟩, ⟨by (with_reducible repeat (first | apply Kd.R_alloc | apply Kd.R_drewN | apply Kd.R_drew)); exact Kd.R_mono HO_10.out (fun _ hk => trivial)⟩, ⟨bk_ BK446⟩, ⟨bl_⟩⟩
    ·rw [if_neg c18] at H
     have c18b0 : (((rd_T58 t450 x12_1).f0.f0) == a1_0 && (((rd_T58 t450 x12_1).f0.f1) == a1_1)) = false := by simpa using c18
     (try (have c18b1 : decide (((rd_T58 t450 x12_1).f0.f0) = a1_0 && (((rd_T58 t450 x12_1).f0.f1) == a1_1)) = false := by simpa using c18))
     (try (have c18b2 : (((rd_T58 t450 x12_1).f0.f0) == a1_0 && (((rd_T58 t450 x12_1).f0.f1) == a1_1)) = false := by simpa using c18))
     (try (have c18b3 : ¬ (((rd_T58 t450 x12_1).f0.f0) = a1_0 && (((rd_T58 t450 x12_1).f0.f1) == a1_1)) := by simpa using c18))
     clear c18
     (first | rw [c18b0] | (simp only [i64_w, i32_w]; rw [c18b0]) | skip)
     have H' := Aside0.mk H
     clear H
     go_wp2
     go_roundg k1
     case measure => have := HK1.out; omega
     case rel => exact ⟨(x5_1), (wrap64 (x12_1 + 1)), rf_, H', ⟨by have := HK1.out; omega⟩, ⟨rr_ HO_5⟩, ⟨by (with_reducible repeat (first | apply Kd.R_alloc | apply Kd.R_drewN | apply Kd.R_drew)); exact Kd.R_mono HO_10.out (fun _ hk => trivial)⟩, ⟨bk_ BK446⟩, ⟨bl_⟩⟩
   ·rw [if_neg c9] at H
    have c9b0 : decide (x12_1 < (t450.length : Int)) = false := decide_eq_false c9
    clear c9
    obtain ⟨t458, A23, H⟩ := bindE_ H
    obtain rfl := Option.some.inj H
    obtain ⟨Ao24, co24, eo24⟩ := Kd.R_slice HO_5.out
    subst eo24
    go_wp2_with (first | ((with_reducible refine gate_callee (f := 60) rfl ?_); refine goesC_ (some 27) Try.func60 #[.slice Ao24 x5_1.length co24] ?_; (with_reducible refine (slices_Sort_int_int.calls (fun k_ => some k_ = (.slice Ao24 x5_1.length co24 : Value).ownBlock) (.slice Ao24 x5_1.length co24) x5_1 t458 w _ ?side1 ?side2 A23.out).mono ?_); (case side1 => repeat (first | (with_reducible first | exact HB.out | apply below_alloc | apply pw_below_drewN | apply below_drew1 | refine below_set ?_ GE446.out) | exact HB.out)); (case side2 => exact Kd.R_tight rfl HO_5.out); rintro e w25 ⟨rfl, hy0, hb, hkp⟩; refine ⟨_, rfl, ?_⟩; replace HO_10 := Aside0.mk (Kd.R_mono (ok' := fun k_ => True) (Kd.R_keptB ((Kd.R_apart' HO_10.out (Kd.R_typed HO_5.out) (by decide))) hkp (fun k_ hk_ hs_ => (hk_.2) hs_)) (fun k_ hk_ => trivial)); replace BK446 := Aside0.mk (blk_kept (bk_ BK446) hkp (fun hs_ => (fun e_ => (Kd.R_ne HO_5.out BK446.out (by decide)) e_) hs_)); replace HO_5 := Aside0.mk (Kd.R_reok rfl hy0 (fun k_ e_ => HO_5.out.1 k_ e_)); replace HB := Aside0.mk (hb); (try clear hb hkp hy0)))
    go_ret
    exact ⟨_, eq_, by (with_reducible repeat (first | apply Kd.R_alloc | apply Kd.R_drewN | apply Kd.R_drew)); exact HO_5.out, bl_⟩
def impl_leads.l0 : Nat → List (S26) → List Int → Int → Int → Int → Int → Int → Int → Int → Int → Int → Int → Int → Int → Option ((List (S26)))
 | 0, _, _, _, _, _, _, _, _, _, _, _, _, _, _ => none
 | k + 1, x5, x23, x24, x25, x460000, x460001, x460002, x460003, x460004, x460005, x460006, x460007, x460008, x460009 => if x25 < x24 then (if 0 ≤ x25 then (if x25 < (x23.length : Int) then (if x5.length < 8796093022208 then (impl_leads.l0 k (x5 ++ [(⟨rd x23 x25, x460007⟩ : S26)]) x23 x24 (wrap64 (x25 + 1)) x460000 x460001 x460002 x460003 x460004 x460005 x460006 x460007 x460008 x460009) else (none)) else (none)) else (none)) else (some x5)
def impl_leads.f (k : Nat) (l0 : List (S49)) (a1_0 : Int) (a1_1 : Int) (a1_2 : Int) (a1_3 : Int) (a1_4 : Int) (a1_5 : Int) (a1_6 : Int) (a1_7 : Int) (a1_8 : Int) (a1_9 : Int) : Option ((List (S26))) := if a1_0 = 2 then (some (([(⟨a1_4, a1_5⟩ : S26)] : List (S26)))) else (if a1_0 = 3 then ((impl_MembersOf.f k l0 a1_4 a1_5).bind fun t466 => (impl_leads.l0 k (([(⟨a1_4, a1_5⟩ : S26)] : List (S26))) t466 (t466.length : Int) 0 a1_0 a1_1 a1_2 a1_3 a1_4 a1_5 a1_6 a1_7 a1_8 a1_9)) else (if a1_0 = 4 then (some (([(⟨a1_4, a1_5⟩ : S26), (⟨a1_6, a1_7⟩ : S26)] : List (S26)))) else (some ([] : List (S26)))))
set_option maxHeartbeats 8000000 in
set_option maxRecDepth 100000 in
theorem impl_leads.calls (k : Nat) (A0 : Option Addr) (c0 : Nat) (l0 : List (S49)) (a1_0 : Int) (a1_1 : Int) (a1_2 : Int) (a1_3 : Int) (a1_4 : Int) (a1_5 : Int) (a1_6 : Int) (a1_7 : Int) (a1_8 : Int) (a1_9 : Int) (r : List (S26)) (w : World) (hr0 : Kd.C k49 w A0 l0.length l0) (hc0 : l0.length ≤ c0) (h : impl_leads.f k l0 a1_0 a1_1 a1_2 a1_3 a1_4 a1_5 a1_6 a1_7 a1_8 a1_9 = some r) :
  Calls Try.prog 31 #[.slice A0 l0.length c0, .agg #[.int .i64 a1_0, .int .i64 a1_1, .int .i64 a1_2, .int .i64 a1_3, .int .i64 a1_4, .int .i64 a1_5, .int .i64 a1_6, .int .i64 a1_7, .int .i64 a1_8, .int .i64 a1_9]] w fun e w' => ∃ v0_ : Value, e = .returned (v0_) ∧ Kd.R k26 26 w' w.heap.size (fun _ => True) v0_ r ∧ Below w.heap.size w w' := by
 have hu49 := Try.underlying49
 have hu26 := Try.underlying26
 have HR0 := Aside0.mk hr0
 have HC0 := Aside0.mk hc0
 clear hr0 hc0
 have HB := Aside0.mk (Below.refl w.heap.size w)
 have H : (if a1_0 = 2 then (some (([(⟨a1_4, a1_5⟩ : S26)] : List (S26)))) else (if a1_0 = 3 then ((impl_MembersOf.f k l0 a1_4 a1_5).bind fun t466 => (impl_leads.l0 k (([(⟨a1_4, a1_5⟩ : S26)] : List (S26))) t466 (t466.length : Int) 0 a1_0 a1_1 a1_2 a1_3 a1_4 a1_5 a1_6 a1_7 a1_8 a1_9)) else (if a1_0 = 4 then (some (([(⟨a1_4, a1_5⟩ : S26), (⟨a1_6, a1_7⟩ : S26)] : List (S26)))) else (some ([] : List (S26)))))) = some r := h
 clear h
 have HC3 := Aside0.mk H
 clear H
 go_enter Try.func31, Try.ntmps31
 go_upto_if 10 with (first | ((with_reducible refine gate_dst (N := 3) rfl ?_); refine box_event ?hg (N := 3) ?hd (cs := #[.int .i64 a1_0, .int .i64 a1_1, .int .i64 a1_2, .int .i64 a1_3, .int .i64 a1_4, .int .i64 a1_5, .int .i64 a1_6, .int .i64 a1_7, .int .i64 a1_8, .int .i64 a1_9]) (t := 49) ?hr ?_; (case hd => rfl); (case hg => rfl); (case hr => first | (go_simp; done) | (go_simp; rfl)); intro gb459 hg w4 hbox hb; have BK459 := Aside0.mk (hbox); have GW459 := gs_ hg; have GE459 := gs_ hg; replace HB := hbs_ hb; clear hb hbox hg; obtain ⟨hcz5, hfz5⟩ := bcf_ BK459))
 (try simp only [Act.put, List.setIfInBounds_toArray, List.set_cons_zero, List.set_cons_succ])
 have H := HC3.out
 clear HC3
 by_cases c6 : a1_0 = 2
 ·rw [if_pos c6] at H
  have c6b0 : (a1_0 == 2) = true := beq_iff_eq.mpr c6
  have c6b1 : (a1_0 != 2) = false := bne_eq_false_iff_eq.mpr c6
  clear c6
  (first | rw [c6b0] | (simp only [i64_w, i32_w]; rw [c6b0]) | skip)
  obtain ⟨y460, hy460⟩ : ∃ y_ : List (S26), y_ = (([(⟨a1_4, a1_5⟩ : S26)] : List (S26))) := ⟨_, rfl⟩
  replace H : (some y460) = some r := rh_ hy460 H
  have Ny460 := Aside0.mk hy460
  clear hy460
  obtain rfl := Option.some.inj H
  have hcz7 := blk_cell BK459.out
  have hfz7 := blk_frozen BK459.out
  go_wp2_with (first | ((with_reducible refine gate_dst (N := 14) rfl ?_); refine Kd.R_lit k26 _ 26 ?hg (N := 14) ?hd (xs := ([(⟨a1_4, a1_5⟩ : S26)] : List (S26))) (inner := [.int .i64 a1_4, .int .i64 a1_5]) (ok := fun _ => True) (okp := fun _ => True) ?hr ?hp (fun _ hk => hk) trivial (Below.refl _ _) (Nat.le_refl _) (by simp) ?_; (case hd => rfl); (case hg => rfl); (case hr => first | (go_simp; done) | (go_simp; rfl)); (case hp => exact (Reps.c2 (show Kd.M k26 _ _ _ (⟨a1_4, a1_5⟩ : S26) [.int .i64 a1_4, .int .i64 a1_5] from (k26_mkM _ _ _ (⟨a1_4, a1_5⟩ : S26) )) (Reps.none _ _))); intro v461 w8 ho9 hb hg_ hnew_; clear hg_ hnew_; (first | rw [← Ny460.out] at ho9 | (simp only [Int.reduceToNat] at ho9; rw [← Ny460.out] at ho9)); have HO462 := Aside0.mk (Kd.R_lower ho9 bls_); replace BK459 := bkb_ BK459 hb; replace HB := hbs_ hb; clear hb ho9))
  go_ret
  exact ⟨_, eq_, by (with_reducible repeat (first | apply Kd.R_alloc | apply Kd.R_drewN | apply Kd.R_drew)); exact HO462.out, bl_⟩
 ·rw [if_neg c6] at H
  have c6b0 : (a1_0 == 2) = false := beq_eq_false_iff_ne.mpr c6
  have c6b1 : (a1_0 != 2) = true := bne_iff_ne.mpr c6
  (first | rw [c6b0] | (simp only [i64_w, i32_w]; rw [c6b0]) | skip)
  by_cases c10 : a1_0 = 3
  ·rw [if_pos c10] at H
   have c10b0 : (a1_0 == 3) = true := beq_iff_eq.mpr c10
   have c10b1 : (a1_0 != 3) = false := bne_eq_false_iff_eq.mpr c10
   clear c10
   obtain ⟨y463, hy463⟩ : ∃ y_ : List (S26), y_ = (([(⟨a1_4, a1_5⟩ : S26)] : List (S26))) := ⟨_, rfl⟩
   replace H : ((impl_MembersOf.f k l0 a1_4 a1_5).bind fun t466 => (impl_leads.l0 k y463 t466 (t466.length : Int) 0 a1_0 a1_1 a1_2 a1_3 a1_4 a1_5 a1_6 a1_7 a1_8 a1_9)) = some r := rh_ hy463 H
   have Ny463 := Aside0.mk hy463
   clear hy463
   obtain ⟨t466, A11, H⟩ := bindE_ H
   have H' := Aside0.mk H
   clear H
   have hcz12 := blk_cell BK459.out
   have hfz12 := blk_frozen BK459.out
   go_wp2_with (first | ((with_reducible refine gate_dst (N := 19) rfl ?_); refine Kd.R_lit k26 _ 26 ?hg (N := 19) ?hd (xs := ([(⟨a1_4, a1_5⟩ : S26)] : List (S26))) (inner := [.int .i64 a1_4, .int .i64 a1_5]) (ok := fun _ => True) (okp := fun _ => True) ?hr ?hp (fun _ hk => hk) trivial (Below.refl _ _) (Nat.le_refl _) (by simp) ?_; (case hd => rfl); (case hg => rfl); (case hr => first | (go_simp; done) | (go_simp; rfl)); (case hp => exact (Reps.c2 (show Kd.M k26 _ _ _ (⟨a1_4, a1_5⟩ : S26) [.int .i64 a1_4, .int .i64 a1_5] from (k26_mkM _ _ _ (⟨a1_4, a1_5⟩ : S26) )) (Reps.none _ _))); intro v464 w13 ho14 hb hg_ hnew_; clear hg_ hnew_; (first | rw [← Ny463.out] at ho14 | (simp only [Int.reduceToNat] at ho14; rw [← Ny463.out] at ho14)); have HO465 := Aside0.mk (Kd.R_lower ho14 bls_); replace BK459 := bkb_ BK459 hb; replace HB := hbs_ hb; clear hb ho14; obtain ⟨hcz15, hfz15⟩ := bcf_ BK459) | ((with_reducible refine gate_callee (f := 50) rfl ?_); refine goesC_ (some 23) Try.func50 #[.slice A0 l0.length c0, .agg #[.int .i64 a1_4, .int .i64 a1_5]] ?_; (with_reducible refine (impl_MembersOf.calls k _ _ l0 a1_4 a1_5 t466 _ ?side1 ?side2 A11.out).mono ?_); (case side1 => repeat (first | exact (Kd.C_below HR0.out HB.out) | (with_reducible refine Kd.C_alloc ?_ _) | (with_reducible refine Kd.C_drewN ?_ _) | (with_reducible refine Kd.C_drew ?_))); (case side2 => exact HC0.out); rintro e w16 ⟨v467, rfl, ho0, hb⟩; refine ⟨_, rfl, ?_⟩; replace HO465 := hob_ HO465 hb; have HO468 := Aside0.mk (Kd.R_lower ho0 bls_); replace BK459 := bkb_ BK459 hb; replace HB := hbs_ hb; (try clear hb ho0); obtain ⟨Ao17, co17, eo17⟩ := Kd.R_slice HO468.out; subst eo17))
   go_loopg [5, 25] k (fun kq v5 v25 w' => ∃ (x5_1 : List (S26)) (x25_1 : Int), v25 = .int .i64 x25_1 ∧ Aside0 (impl_leads.l0 kq x5_1 t466 (t466.length : Int) x25_1 a1_0 a1_1 a1_2 a1_3 a1_4 a1_5 a1_6 a1_7 a1_8 a1_9 = some r) ∧ Aside0 (kq ≤ k) ∧ Aside0 (Kd.R k26 26 w' w.heap.size (fun _ => True) v5 x5_1) ∧ Aside0 (Kd.R (Kd.int .i64) 3 w' w.heap.size (fun _ => True) (.slice Ao17 t466.length co17) t466) ∧ Aside0 (w'.heap[gb459]? = some (.cells #[.int .i64 a1_0, .int .i64 a1_1, .int .i64 a1_2, .int .i64 a1_3, .int .i64 a1_4, .int .i64 a1_5, .int .i64 a1_6, .int .i64 a1_7, .int .i64 a1_8, .int .i64 a1_9] 49 (0, 0))) ∧ Aside0 (Below w.heap.size w w'))
   case atStart => exact ⟨(y463), (0), rf_, H', ⟨Nat.le_refl _⟩, ⟨rr_ HO465⟩, ⟨rr_ HO468⟩, ⟨bk_ BK459⟩, ⟨bl_⟩⟩
   case round =>
    clear H'
    try clear c1
    try clear c2
    try clear p2
    try clear c3
    try clear c5
    try clear c6
    try clear c6b0
    try clear c6b1
    try clear c10
    try clear c10b0
    try clear c10b1
    try clear hcz12
    try clear hcz15
    try clear hcz5
    try clear hcz7
    try clear hfz12
    try clear hfz15
    try clear hfz5
    try clear hfz7
    obtain ⟨x5_1, x25_1, rfl, HA, HK1, HO_5, HO_23, BK459, HB⟩ := hrel
    cases gk with
    | zero => exact absurd HA.out (by simp [impl_leads.l0])
    | succ k1 =>
     have H := HA.out
     clear HA
     simp only [impl_leads.l0] at H
     by_cases c18 : x25_1 < (t466.length : Int)
     ·rw [if_pos c18] at H
      have c18b0 : decide (x25_1 < (t466.length : Int)) = true := decide_eq_true c18
      clear c18
      obtain ⟨c19b0, H⟩ := ifd_ H
      obtain ⟨c20b0, H⟩ := ifd_ H
      obtain ⟨c21, H⟩ := ifn_ H
      have LMc21 := Aside0.mk c21
      clear c21
      obtain ⟨y470, hy470⟩ : ∃ y_ : List (S26), y_ = (x5_1 ++ [(⟨rd t466 x25_1, a1_7⟩ : S26)]) := ⟨_, rfl⟩
      replace H : (impl_leads.l0 k1 y470 t466 (t466.length : Int) (wrap64 (x25_1 + 1)) a1_0 a1_1 a1_2 a1_3 a1_4 a1_5 a1_6 a1_7 a1_8 a1_9) = some r := rh_ hy470 H
      have Ny470 := Aside0.mk hy470
      clear hy470
      have H' := Aside0.mk H
      clear H
      have p469 : 0 ≤ (x25_1 : Int) := od_
      have q469 : x25_1 < (t466.length : Int) := od_
      obtain ⟨ad469, e469, hx469_0⟩ := Kd.at_int (Kd.R_reads' HO_23.out).2.2 x25_1 p469 q469
      cases e469
      replace p469 := eq_true p469
      replace q469 := eq_true q469
      have hcz22 := blk_cell BK459.out
      have hfz22 := blk_frozen BK459.out
      go_wp2_with (first | ((with_reducible refine gate_builtin (b := .append) (xs := #[.tmp 29, .tmp 35]) rfl ?_); at_builtin; refine Kd.R_append k26 (w0 := w) w.heap.size rfl (.tmp 29) (.tmp 35) 35 26 (.agg #[(.int .i64 0), (.int .i64 0)]) 16 rfl Try.underlying35 info26 rfl (by decide) (by omega) u5 x5_1 (⟨rd t466 x25_1, a1_7⟩ : S26) [.int .i64 (rd t466 x25_1), .int .i64 a1_7] (fun _ => True) (fun _ => False) rfl rfl ?aP (fun _ hk => hk.elim) ?aF ?aO ?aB ?aS ?aL ?_; (case aP => exact k26_mkM _ _ _ (⟨rd t466 x25_1, a1_7⟩ : S26)); (case aB => exact bl_); (case aF => exact (fun _ _ => trivial)); (case aO => exact (rr_ HO_5)); (case aS => exact bls_); (case aL => have := LMc21.out; omega); intro v471 w23 ho hb hg hat; rw [← Ny470.out] at ho; replace HO_23 := Aside0.mk (Kd.R_over' (rr_ HO_23) (Kd.R_typed (rr_ HO_5)) (by decide) hg); replace BK459 := Aside0.mk (blk_grown (g := gb459) (o := .cells #[.int .i64 a1_0, .int .i64 a1_1, .int .i64 a1_2, .int .i64 a1_3, .int .i64 a1_4, .int .i64 a1_5, .int .i64 a1_6, .int .i64 a1_7, .int .i64 a1_8, .int .i64 a1_9] 49 (0, 0)) (bk_ BK459) hg (Kd.R_ne HO_5.out BK459.out (by decide))); replace HB := Aside0.mk (hb); have HO472 := Aside0.mk (ho); clear HO_5; clear ho hb hg hat))
      go_roundg k1
      case measure => have := HK1.out; omega
      case rel => exact ⟨(y470), (wrap64 (x25_1 + 1)), rf_, H', ⟨by have := HK1.out; omega⟩, ⟨rr_ HO472⟩, ⟨rr_ HO_23⟩, ⟨bk_ BK459⟩, ⟨bl_⟩⟩
     ·rw [if_neg c18] at H
      have c18b0 : decide (x25_1 < (t466.length : Int)) = false := decide_eq_false c18
      clear c18
      obtain rfl := Option.some.inj H
      go_wp2
      go_ret
      exact ⟨_, eq_, by (with_reducible repeat (first | apply Kd.R_alloc | apply Kd.R_drewN | apply Kd.R_drew)); exact HO_5.out, bl_⟩
  ·rw [if_neg c10] at H
   have c10b0 : (a1_0 == 3) = false := beq_eq_false_iff_ne.mpr c10
   have c10b1 : (a1_0 != 3) = true := bne_iff_ne.mpr c10
   by_cases c24 : a1_0 = 4
   ·rw [if_pos c24] at H
    have c24b0 : (a1_0 == 4) = true := beq_iff_eq.mpr c24
    have c24b1 : (a1_0 != 4) = false := bne_eq_false_iff_eq.mpr c24
    clear c24
    obtain ⟨y473, hy473⟩ : ∃ y_ : List (S26), y_ = (([(⟨a1_4, a1_5⟩ : S26), (⟨a1_6, a1_7⟩ : S26)] : List (S26))) := ⟨_, rfl⟩
    replace H : (some y473) = some r := rh_ hy473 H
    have Ny473 := Aside0.mk hy473
    clear hy473
    obtain rfl := Option.some.inj H
    have hcz25 := blk_cell BK459.out
    have hfz25 := blk_frozen BK459.out
    go_wp2_with (first | ((with_reducible refine gate_dst (N := 45) rfl ?_); refine Kd.R_lit k26 _ 26 ?hg (N := 45) ?hd (xs := ([(⟨a1_4, a1_5⟩ : S26), (⟨a1_6, a1_7⟩ : S26)] : List (S26))) (inner := [.int .i64 a1_4, .int .i64 a1_5, .int .i64 a1_6, .int .i64 a1_7]) (ok := fun _ => True) (okp := fun _ => True) ?hr ?hp (fun _ hk => hk) trivial (Below.refl _ _) (Nat.le_refl _) (by simp) ?_; (case hd => rfl); (case hg => rfl); (case hr => first | (go_simp; done) | (go_simp; rfl)); (case hp => exact (Reps.c2 (show Kd.M k26 _ _ _ (⟨a1_4, a1_5⟩ : S26) [.int .i64 a1_4, .int .i64 a1_5] from (k26_mkM _ _ _ (⟨a1_4, a1_5⟩ : S26) )) (Reps.c2 (show Kd.M k26 _ _ _ (⟨a1_6, a1_7⟩ : S26) [.int .i64 a1_6, .int .i64 a1_7] from (k26_mkM _ _ _ (⟨a1_6, a1_7⟩ : S26) )) (Reps.none _ _)))); intro v474 w26 ho27 hb hg_ hnew_; clear hg_ hnew_; (first | rw [← Ny473.out] at ho27 | (simp only [Int.reduceToNat] at ho27; rw [← Ny473.out] at ho27)); have HO475 := Aside0.mk (Kd.R_lower ho27 bls_); replace BK459 := bkb_ BK459 hb; replace HB := hbs_ hb; clear hb ho27))
    go_ret
    exact ⟨_, eq_, by (with_reducible repeat (first | apply Kd.R_alloc | apply Kd.R_drewN | apply Kd.R_drew)); exact HO475.out, bl_⟩
   ·rw [if_neg c24] at H
    have c24b0 : (a1_0 == 4) = false := beq_eq_false_iff_ne.mpr c24
    have c24b1 : (a1_0 != 4) = true := bne_iff_ne.mpr c24
    obtain rfl := Option.some.inj H
    go_wp2
    go_ret
    exact ⟨_, eq_, by first | exact Kd.R_nil _ _ _ _ _ | exact Kd.N_nil _ _ _ _ _ | exact Kd.V_nil _ _ _ _ _ | exact Kd.Q_nil _ _ _ _ _ | exact Kd.S_nil _ _ _ _ _, bl_⟩
def impl_Role_51.l0 : Nat → List (S26) → Int → Int → Int → Int → Option (Int)
 | 0, _, _, _, _, _ => none
 | k + 1, x0, x7, x8, x477000, x477001 => if x8 < x7 then (if 0 ≤ x8 then (if x8 < (x0.length : Int) then (if (x477000 == ((rd_T26 x0 x8).f0) && (x477001 == ((rd_T26 x0 x8).f1))) = true then (some x8) else (impl_Role_51.l0 k x0 x7 (wrap64 (x8 + 1)) x477000 x477001)) else (none)) else (none)) else (some (-1))
def impl_Role_51.f (k : Nat) (l0 : List (S26)) (a1_0 : Int) (a1_1 : Int) : Option (Int) := impl_Role_51.l0 k l0 (l0.length : Int) 0 a1_0 a1_1
set_option maxHeartbeats 8000000 in
set_option maxRecDepth 100000 in
theorem impl_Role_51.calls (k : Nat) (A0 : Option Addr) (c0 : Nat) (l0 : List (S26)) (a1_0 : Int) (a1_1 : Int) (r : Int) (w : World) (hr0 : Kd.C k26 w A0 l0.length l0) (hc0 : l0.length ≤ c0) (h : impl_Role_51.f k l0 a1_0 a1_1 = some r) :
  Calls Try.prog 51 #[.slice A0 l0.length c0, .agg #[.int .i64 a1_0, .int .i64 a1_1]] w fun e w' => e = .returned (.int .i64 r) ∧ Below w.heap.size w w' := by
 have hu26 := Try.underlying26
 have HR0 := Aside0.mk hr0
 have HC0 := Aside0.mk hc0
 clear hr0 hc0
 have HB := Aside0.mk (Below.refl w.heap.size w)
 have H : (impl_Role_51.l0 k l0 (l0.length : Int) 0 a1_0 a1_1) = some r := h
 clear h
 have H' := Aside0.mk H
 clear H
 go_enter Try.func51, Try.ntmps51
 go_wp2_with (first | ((with_reducible refine gate_dst (N := 3) rfl ?_); refine box_event ?hg (N := 3) ?hd (cs := #[.int .i64 a1_0, .int .i64 a1_1]) (t := 26) ?hr ?_; (case hd => rfl); (case hg => rfl); (case hr => first | (go_simp; done) | (go_simp; rfl)); intro gb476 hg w3 hbox hb; have BK476 := Aside0.mk (hbox); have GW476 := gs_ hg; have GE476 := gs_ hg; replace HB := hbs_ hb; clear hb hbox hg))
 repeat (go_quiet (first | ((with_reducible refine gate_dst (N := 3) rfl ?_); refine box_event ?hg (N := 3) ?hd (cs := #[.int .i64 a1_0, .int .i64 a1_1]) (t := 26) ?hr ?_; (case hd => rfl); (case hg => rfl); (case hr => first | (go_simp; done) | (go_simp; rfl)); intro gb476 hg w3 hbox hb; have BK476 := Aside0.mk (hbox); have GW476 := gs_ hg; have GE476 := gs_ hg; replace HB := hbs_ hb; clear hb hbox hg)); try go_wp2_with (first | ((with_reducible refine gate_dst (N := 3) rfl ?_); refine box_event ?hg (N := 3) ?hd (cs := #[.int .i64 a1_0, .int .i64 a1_1]) (t := 26) ?hr ?_; (case hd => rfl); (case hg => rfl); (case hr => first | (go_simp; done) | (go_simp; rfl)); intro gb476 hg w3 hbox hb; have BK476 := Aside0.mk (hbox); have GW476 := gs_ hg; have GE476 := gs_ hg; replace HB := hbs_ hb; clear hb hbox hg)))
 go_loopg [8] k (fun kq v8 w' => ∃ (x8_1 : Int), v8 = .int .i64 x8_1 ∧ Aside0 (impl_Role_51.l0 kq l0 (l0.length : Int) x8_1 a1_0 a1_1 = some r) ∧ Aside0 (kq ≤ k) ∧ Aside0 (w'.heap[gb476]? = some (.cells #[.int .i64 a1_0, .int .i64 a1_1] 26 (0, 0))) ∧ Aside0 (Below w.heap.size w w'))
 case atStart => exact ⟨(0), rf_, H', ⟨Nat.le_refl _⟩, ⟨bk_ BK476⟩, ⟨bl_⟩⟩
 case round =>
  clear H'
  try clear p2
  obtain ⟨x8_1, rfl, HA, HK1, BK476, HB⟩ := hrel
  cases gk with
  | zero => exact absurd HA.out (by simp [impl_Role_51.l0])
  | succ k1 =>
   have H := HA.out
   clear HA
   simp only [impl_Role_51.l0] at H
   by_cases c4 : x8_1 < (l0.length : Int)
   ·rw [if_pos c4] at H
    have c4b0 : decide (x8_1 < (l0.length : Int)) = true := decide_eq_true c4
    clear c4
    obtain ⟨c5b0, H⟩ := ifd_ H
    obtain ⟨c6b0, H⟩ := ifd_ H
    have HC7 := Aside0.mk H
    clear H
    have hcz8 := blk_cell BK476.out
    have hfz8 := blk_frozen BK476.out
    have p477 : 0 ≤ (x8_1 : Int) := od_
    have q477 : x8_1 < (l0.length : Int) := od_
    obtain ⟨ad477, e477, hx477_0, hx477_1⟩ := at_T26 (Kd.C_below HR0.out HB.out) x8_1 p477 q477
    cases e477
    replace p477 := eq_true p477
    replace q477 := eq_true q477
    go_upto_if 16 with (fail)
    repeat (go_quiet (fail); go_upto_if 16 with (fail))
    have H := HC7.out
    clear HC7
    by_cases c9 : (a1_0 == ((rd_T26 l0 x8_1).f0) && (a1_1 == ((rd_T26 l0 x8_1).f1))) = true
    ·rw [if_pos c9] at H
     have c9b0 : (a1_0 == ((rd_T26 l0 x8_1).f0) && (a1_1 == ((rd_T26 l0 x8_1).f1))) = true := c9
     (try (have c9b1 : decide (a1_0 = ((rd_T26 l0 x8_1).f0) && (a1_1 == ((rd_T26 l0 x8_1).f1))) = true := by simpa using c9))
     (try (have c9b2 : (a1_0 == ((rd_T26 l0 x8_1).f0) && (a1_1 == ((rd_T26 l0 x8_1).f1))) = true := by simpa using c9))
     clear c9
     (first | rw [c9b0] | (simp only [i64_w, i32_w]; rw [c9b0]) | skip)
     obtain rfl := Option.some.inj H
     go_wp2
     repeat (go_quiet (fail); try go_wp2)
     go_ret
     exact ⟨eq_, bl_⟩
    ·rw [if_neg c9] at H
     have c9b0 : (a1_0 == ((rd_T26 l0 x8_1).f0) && (a1_1 == ((rd_T26 l0 x8_1).f1))) = false := by simpa using c9
     (try (have c9b1 : decide (a1_0 = ((rd_T26 l0 x8_1).f0) && (a1_1 == ((rd_T26 l0 x8_1).f1))) = false := by simpa using c9))
     (try (have c9b2 : (a1_0 == ((rd_T26 l0 x8_1).f0) && (a1_1 == ((rd_T26 l0 x8_1).f1))) = false := by simpa using c9))
     (try (have c9b3 : ¬ (a1_0 = ((rd_T26 l0 x8_1).f0) && (a1_1 == ((rd_T26 l0 x8_1).f1))) := by simpa using c9))
     clear c9
     (first | rw [c9b0] | (simp only [i64_w, i32_w]; rw [c9b0]) | skip)
     have H' := Aside0.mk H
     clear H
     go_wp2
     repeat (go_quiet (fail); try go_wp2)
     go_roundg k1
     case measure => have := HK1.out; omega
     case rel => exact ⟨(wrap64 (x8_1 + 1)), rf_, H', ⟨by have := HK1.out; omega⟩, ⟨bk_ BK476⟩, ⟨bl_⟩⟩
   ·rw [if_neg c4] at H
    have c4b0 : decide (x8_1 < (l0.length : Int)) = false := decide_eq_false c4
    clear c4
    obtain rfl := Option.some.inj H
    go_wp2
    repeat (go_quiet (fail); try go_wp2)
    go_ret
    exact ⟨eq_, bl_⟩
def impl_Role_32.f (k : Nat) (l0 : List (S26)) (a1_0 : Int) (a1_1 : Int) : Option (Bool) := (impl_Role_51.f k l0 a1_0 a1_1).bind fun t479 => (some (decide (t479 ≥ 0)))
set_option maxHeartbeats 8000000 in
set_option maxRecDepth 100000 in
theorem impl_Role_32.calls (k : Nat) (A0 : Option Addr) (c0 : Nat) (l0 : List (S26)) (a1_0 : Int) (a1_1 : Int) (r : Bool) (w : World) (hr0 : Kd.C k26 w A0 l0.length l0) (hc0 : l0.length ≤ c0) (h : impl_Role_32.f k l0 a1_0 a1_1 = some r) :
  Calls Try.prog 32 #[.slice A0 l0.length c0, .agg #[.int .i64 a1_0, .int .i64 a1_1]] w fun e w' => e = .returned (.bool r) ∧ Below w.heap.size w w' := by
 have hu26 := Try.underlying26
 have HR0 := Aside0.mk hr0
 have HC0 := Aside0.mk hc0
 clear hr0 hc0
 have HB := Aside0.mk (Below.refl w.heap.size w)
 have H : ((impl_Role_51.f k l0 a1_0 a1_1).bind fun t479 => (some (decide (t479 ≥ 0)))) = some r := h
 clear h
 obtain ⟨t479, A3, H⟩ := bindE_ H
 obtain rfl := Option.some.inj H
 go_enter Try.func32, Try.ntmps32
 go_wp2_with (first | ((with_reducible refine gate_dst (N := 3) rfl ?_); refine box_event ?hg (N := 3) ?hd (cs := #[.int .i64 a1_0, .int .i64 a1_1]) (t := 26) ?hr ?_; (case hd => rfl); (case hg => rfl); (case hr => first | (go_simp; done) | (go_simp; rfl)); intro gb478 hg w4 hbox hb; have BK478 := Aside0.mk (hbox); have GW478 := gs_ hg; have GE478 := gs_ hg; replace HB := hbs_ hb; clear hb hbox hg; obtain ⟨hcz5, hfz5⟩ := bcf_ BK478) | ((with_reducible refine gate_callee (f := 51) rfl ?_); refine goesC_ (some 7) Try.func51 #[.slice A0 l0.length c0, .agg #[.int .i64 a1_0, .int .i64 a1_1]] ?_; (with_reducible refine (impl_Role_51.calls k _ _ l0 a1_0 a1_1 t479 _ ?side1 ?side2 A3.out).mono ?_); (case side1 => repeat (first | exact (Kd.C_below HR0.out HB.out) | (with_reducible refine Kd.C_alloc ?_ _) | (with_reducible refine Kd.C_drewN ?_ _) | (with_reducible refine Kd.C_drew ?_))); (case side2 => exact HC0.out); rintro e w6 ⟨rfl, hb⟩; refine ⟨_, rfl, ?_⟩; replace BK478 := bkb_ BK478 hb; replace HB := hbs_ hb; clear hb))
 go_ret
 exact ⟨eq_, bl_⟩
mutual
def impl_LeansOn.l0 : Nat → List (S49) → List (S26) → List (S49) → Int → Int → Int → Int → Option ((List (S26)))
 | 0, _, _, _, _, _, _, _ => none
 | k + 1, x0, x5, x11, x12, x13, x481000, x481001 => if x13 < x12 then (if 0 ≤ x13 then (if x13 < (x11.length : Int) then ((impl_CredOk.f k ((rd_T49 x11 x13).f0) ((rd_T49 x11 x13).f1.f0) ((rd_T49 x11 x13).f1.f1) ((rd_T49 x11 x13).f2) ((rd_T49 x11 x13).f3.f0) ((rd_T49 x11 x13).f3.f1) ((rd_T49 x11 x13).f4.f0) ((rd_T49 x11 x13).f4.f1) ((rd_T49 x11 x13).f5) ((rd_T49 x11 x13).f6)).bind fun t486 => (if t486 = true then (impl_LeansOn.j1 k x0 x5 x11 x12 x13 (!(((rd_T49 x11 x13).f1.f0) == x481000) || (!(((rd_T49 x11 x13).f1.f1) == x481001))) x481000 x481001 ((rd_T49 x11 x13).f0) ((rd_T49 x11 x13).f1.f0) ((rd_T49 x11 x13).f1.f1) ((rd_T49 x11 x13).f2) ((rd_T49 x11 x13).f3.f0) ((rd_T49 x11 x13).f3.f1) ((rd_T49 x11 x13).f4.f0) ((rd_T49 x11 x13).f4.f1) ((rd_T49 x11 x13).f5) ((rd_T49 x11 x13).f6)) else (impl_LeansOn.j1 k x0 x5 x11 x12 x13 true x481000 x481001 ((rd_T49 x11 x13).f0) ((rd_T49 x11 x13).f1.f0) ((rd_T49 x11 x13).f1.f1) ((rd_T49 x11 x13).f2) ((rd_T49 x11 x13).f3.f0) ((rd_T49 x11 x13).f3.f1) ((rd_T49 x11 x13).f4.f0) ((rd_T49 x11 x13).f4.f1) ((rd_T49 x11 x13).f5) ((rd_T49 x11 x13).f6)))) else (none)) else (none)) else (some x5)
def impl_LeansOn.j1 : Nat → List (S49) → List (S26) → List (S49) → Int → Int → Bool → Int → Int → Int → Int → Int → Int → Int → Int → Int → Int → Int → Int → Option ((List (S26)))
 | 0, _, _, _, _, _, _, _, _, _, _, _, _, _, _, _, _, _, _ => none
 | k + 1, x0, x5, x11, x12, x13, x25, x481000, x481001, x486000, x486001, x486002, x486003, x486004, x486005, x486006, x486007, x486008, x486009 => if x25 = true then (impl_LeansOn.l0 k x0 x5 x11 x12 (wrap64 (x13 + 1)) x481000 x481001) else ((impl_leads.f k x0 x486000 x486001 x486002 x486003 x486004 x486005 x486006 x486007 x486008 x486009).bind fun t487 => (impl_LeansOn.l1 k x0 x5 x11 x12 x13 t487 (t487.length : Int) 0 x481000 x481001))
def impl_LeansOn.l1 : Nat → List (S49) → List (S26) → List (S49) → Int → Int → List (S26) → Int → Int → Int → Int → Option ((List (S26)))
 | 0, _, _, _, _, _, _, _, _, _, _ => none
 | k + 1, x0, x5, x11, x12, x13, x28, x29, x30, x481000, x481001 => if x30 < x29 then (if 0 ≤ x30 then (if x30 < (x28.length : Int) then ((impl_Role_32.f k x5 ((rd_T26 x28 x30).f0) ((rd_T26 x28 x30).f1)).bind fun t492 => (if t492 = true then (impl_LeansOn.l1 k x0 x5 x11 x12 x13 x28 x29 (wrap64 (x30 + 1)) x481000 x481001) else (if x5.length < 8796093022208 then (impl_LeansOn.l1 k x0 (x5 ++ [(⟨(rd_T26 x28 x30).f0, (rd_T26 x28 x30).f1⟩ : S26)]) x11 x12 x13 x28 x29 (wrap64 (x30 + 1)) x481000 x481001) else (none)))) else (none)) else (none)) else (impl_LeansOn.l0 k x0 x5 x11 x12 (wrap64 (x13 + 1)) x481000 x481001)
end
def impl_LeansOn.f (k : Nat) (l0 : List (S49)) (a1_0 : Int) (a1_1 : Int) : Option ((List (S26))) := impl_LeansOn.l0 k l0 (([] : List (S26))) l0 (l0.length : Int) 0 a1_0 a1_1
set_option maxHeartbeats 8000000 in
set_option maxRecDepth 100000 in
theorem impl_LeansOn.calls (k : Nat) (A0 : Option Addr) (c0 : Nat) (l0 : List (S49)) (a1_0 : Int) (a1_1 : Int) (r : List (S26)) (w : World) (hr0 : Kd.C k49 w A0 l0.length l0) (hc0 : l0.length ≤ c0) (h : impl_LeansOn.f k l0 a1_0 a1_1 = some r) :
  Calls Try.prog 10 #[.slice A0 l0.length c0, .agg #[.int .i64 a1_0, .int .i64 a1_1]] w fun e w' => ∃ v0_ : Value, e = .returned (v0_) ∧ Kd.R k26 26 w' w.heap.size (fun _ => True) v0_ r ∧ Below w.heap.size w w' := by
 have hu26 := Try.underlying26
 have hu49 := Try.underlying49
 have HR0 := Aside0.mk hr0
 have HC0 := Aside0.mk hc0
 clear hr0 hc0
 have HB := Aside0.mk (Below.refl w.heap.size w)
 have H : (impl_LeansOn.l0 k l0 (([] : List (S26))) l0 (l0.length : Int) 0 a1_0 a1_1) = some r := h
 clear h
 obtain ⟨y481, hy481⟩ : ∃ y_ : List (S26), y_ = (([] : List (S26))) := ⟨_, rfl⟩
 replace H : (impl_LeansOn.l0 k l0 y481 l0 (l0.length : Int) 0 a1_0 a1_1) = some r := rh_ hy481 H
 have Ny481 := Aside0.mk hy481
 clear hy481
 have H' := Aside0.mk H
 clear H
 go_enter Try.func10, Try.ntmps10
 go_wp2_with (first | ((with_reducible refine gate_dst (N := 3) rfl ?_); refine box_event ?hg (N := 3) ?hd (cs := #[.int .i64 a1_0, .int .i64 a1_1]) (t := 26) ?hr ?_; (case hd => rfl); (case hg => rfl); (case hr => first | (go_simp; done) | (go_simp; rfl)); intro gb480 hg w3 hbox hb; have BK480 := Aside0.mk (hbox); have GW480 := gs_ hg; have GE480 := gs_ hg; replace HB := hbs_ hb; clear hb hbox hg) | ((with_reducible refine gate_dst (N := 10) rfl ?_); refine Kd.R_lit k26 _ 26 ?hg (N := 10) ?hd (xs := ([] : List (S26))) (inner := []) (ok := fun _ => True) (okp := fun _ => True) ?hr ?hp (fun _ hk => hk) trivial (Below.refl _ _) (Nat.le_refl _) (by simp) ?_; (case hd => rfl); (case hg => rfl); (case hr => first | (go_simp; done) | (go_simp; rfl)); (case hp => exact (Reps.none _ _)); intro v482 w4 ho5 hb hg_ hnew_; clear hg_ hnew_; (first | rw [← Ny481.out] at ho5 | (simp only [Int.reduceToNat] at ho5; rw [← Ny481.out] at ho5)); have HO483 := Aside0.mk (Kd.R_lower (Kd.R_newB ho5 (g := gb480) (o := .cells #[.int .i64 a1_0, .int .i64 a1_1] 26 (0, 0)) (bk_ BK480)) bls_); replace BK480 := bkb_ BK480 hb; replace HB := hbs_ hb; clear hb ho5))
 go_loopg [5, 13] k (fun kq v5 v13 w' => ∃ (x5_1 : List (S26)) (x13_1 : Int), v13 = .int .i64 x13_1 ∧ Aside0 (impl_LeansOn.l0 kq l0 x5_1 l0 (l0.length : Int) x13_1 a1_0 a1_1 = some r) ∧ Aside0 (kq ≤ k) ∧ Aside0 (Kd.R k26 26 w' w.heap.size (fun k_ => k_ ≠ gb480) v5 x5_1) ∧ Aside0 (w'.heap[gb480]? = some (.cells #[.int .i64 a1_0, .int .i64 a1_1] 26 (0, 0))) ∧ Aside0 (Below w.heap.size w w'))
 case atStart => exact ⟨(y481), (0), rf_, H', ⟨Nat.le_refl _⟩, ⟨by (with_reducible repeat (first | apply Kd.R_alloc | apply Kd.R_drewN | apply Kd.R_drew)); exact Kd.R_mono HO483.out (fun _ hk => hk.2)⟩, ⟨bk_ BK480⟩, ⟨bl_⟩⟩
 case round =>
  clear H'
  try clear c1
  try clear p2
  obtain ⟨x5_1, x13_1, rfl, HA, HK1, HO_5, BK480, HB⟩ := hrel
  cases gk with
  | zero => exact absurd HA.out (by simp [impl_LeansOn.l0])
  | succ k1 =>
   have H := HA.out
   clear HA
   simp only [impl_LeansOn.l0] at H
   by_cases c6 : x13_1 < (l0.length : Int)
   ·rw [if_pos c6] at H
    have c6b0 : decide (x13_1 < (l0.length : Int)) = true := decide_eq_true c6
    clear c6
    obtain ⟨c7b0, H⟩ := ifd_ H
    obtain ⟨c8b0, H⟩ := ifd_ H
    have HC9 := Aside0.mk H
    clear H
    have p484 : 0 ≤ (x13_1 : Int) := od_
    have q484 : x13_1 < (l0.length : Int) := od_
    obtain ⟨ad484, e484, hx484_0, hx484_1, hx484_2, hx484_3, hx484_4, hx484_5, hx484_6, hx484_7, hx484_8, hx484_9⟩ := at_T49 (Kd.C_below HR0.out HB.out) x13_1 p484 q484
    cases e484
    replace p484 := eq_true p484
    replace q484 := eq_true q484
    go_upto_region 5 with (first | ((with_reducible refine gate_dst (N := 7) rfl ?_); refine box_event ?hg (N := 7) ?hd (cs := #[.int .i64 0, .int .i64 0, .int .i64 0, .int .i64 0, .int .i64 0, .int .i64 0, .int .i64 0, .int .i64 0, .int .i64 0, .int .i64 0]) (t := 49) ?hr ?_; (case hd => rfl); (case hg => rfl); (case hr => first | (go_simp; done) | (go_simp; rfl)); intro gb485 hg w10 hbox hb; replace HO_5 := hob_ HO_5 hb; have BK485 := Aside0.mk (hbox); have GW485 := gs_ hg; have GE485 := gs_ hg; replace HB := hbs_ hb; have NB480_485 := nl_ hg BK480; have NB485_480 := nr_ hg BK480; replace BK480 := bkb_ BK480 hb; clear hb hbox hg; have hnb11 := NB485_480.out; have hnc11 := NB480_485.out; obtain ⟨hcz12, hfz12⟩ := bcf_ BK485))
    (try simp only [Act.put, List.setIfInBounds_toArray, List.set_cons_zero, List.set_cons_succ])
    go_cut [25] (fun v25 wc => ∃ (kq : Nat) (x25_8 : Bool), v25 = .bool x25_8 ∧ Aside0 (impl_LeansOn.j1 kq l0 x5_1 l0 (l0.length : Int) x13_1 x25_8 a1_0 a1_1 ((rd_T49 l0 x13_1).f0) ((rd_T49 l0 x13_1).f1.f0) ((rd_T49 l0 x13_1).f1.f1) ((rd_T49 l0 x13_1).f2) ((rd_T49 l0 x13_1).f3.f0) ((rd_T49 l0 x13_1).f3.f1) ((rd_T49 l0 x13_1).f4.f0) ((rd_T49 l0 x13_1).f4.f1) ((rd_T49 l0 x13_1).f5) ((rd_T49 l0 x13_1).f6) = some r) ∧ Aside0 (kq ≤ k1) ∧ Aside0 (Kd.R k26 26 wc w.heap.size (fun k_ => k_ ≠ gb480) u5 x5_1) ∧ Aside0 (wc.heap[gb480]? = some (.cells #[.int .i64 a1_0, .int .i64 a1_1] 26 (0, 0))) ∧ Aside0 (wc.heap[gb485]? = some (.cells #[.int .i64 ((rd_T49 l0 x13_1).f0), .int .i64 ((rd_T49 l0 x13_1).f1.f0), .int .i64 ((rd_T49 l0 x13_1).f1.f1), .int .i64 ((rd_T49 l0 x13_1).f2), .int .i64 ((rd_T49 l0 x13_1).f3.f0), .int .i64 ((rd_T49 l0 x13_1).f3.f1), .int .i64 ((rd_T49 l0 x13_1).f4.f0), .int .i64 ((rd_T49 l0 x13_1).f4.f1), .int .i64 ((rd_T49 l0 x13_1).f5), .int .i64 ((rd_T49 l0 x13_1).f6)] 49 (0, 0))) ∧ Aside0 (Below w.heap.size w wc))
    case first =>
     have H := HC9.out
     clear HC9
     obtain ⟨t486, A13, H⟩ := bindE_ H
     by_cases c14 : t486 = true
     ·subst c14
      replace H := ite_t_ H
      have H' := Aside0.mk H
      clear H
      have hnb15 := NB485_480.out
      have hnc15 := NB480_485.out
      have hcz16 := blk_cell BK485.out
      have hfz16 := blk_frozen BK485.out
      go_wp2_with (first | ((with_reducible refine gate_callee (f := 30) rfl ?_); refine goesC_ (some 18) Try.func30 #[.agg #[.int .i64 ((rd_T49 l0 x13_1).f0), .int .i64 ((rd_T49 l0 x13_1).f1.f0), .int .i64 ((rd_T49 l0 x13_1).f1.f1), .int .i64 ((rd_T49 l0 x13_1).f2), .int .i64 ((rd_T49 l0 x13_1).f3.f0), .int .i64 ((rd_T49 l0 x13_1).f3.f1), .int .i64 ((rd_T49 l0 x13_1).f4.f0), .int .i64 ((rd_T49 l0 x13_1).f4.f1), .int .i64 ((rd_T49 l0 x13_1).f5), .int .i64 ((rd_T49 l0 x13_1).f6)]] ?_; (with_reducible refine (impl_CredOk.calls k1 ((rd_T49 l0 x13_1).f0) ((rd_T49 l0 x13_1).f1.f0) ((rd_T49 l0 x13_1).f1.f1) ((rd_T49 l0 x13_1).f2) ((rd_T49 l0 x13_1).f3.f0) ((rd_T49 l0 x13_1).f3.f1) ((rd_T49 l0 x13_1).f4.f0) ((rd_T49 l0 x13_1).f4.f1) ((rd_T49 l0 x13_1).f5) ((rd_T49 l0 x13_1).f6) true _ A13.out).mono ?_); rintro e w17 ⟨rfl, hb⟩; refine ⟨_, rfl, ?_⟩; replace HO_5 := Aside0.mk (Kd.R_below (by (with_reducible repeat (first | apply Kd.R_alloc | apply Kd.R_drewN | apply Kd.R_drew)); exact (Kd.R_mono (fr10_ (Kd.R_types HO_5.out BK485.out (by decide)) (fun _ hk => hk.2)) (fun _ h_ => h_.1))) hb); replace BK480 := Aside0.mk (blk_below (g := gb480) (o := .cells #[.int .i64 a1_0, .int .i64 a1_1] 26 (0, 0)) (bk_ BK480) hb); replace BK485 := Aside0.mk (blk_below (g := gb485) (o := .cells #[.int .i64 ((rd_T49 l0 x13_1).f0), .int .i64 ((rd_T49 l0 x13_1).f1.f0), .int .i64 ((rd_T49 l0 x13_1).f1.f1), .int .i64 ((rd_T49 l0 x13_1).f2), .int .i64 ((rd_T49 l0 x13_1).f3.f0), .int .i64 ((rd_T49 l0 x13_1).f3.f1), .int .i64 ((rd_T49 l0 x13_1).f4.f0), .int .i64 ((rd_T49 l0 x13_1).f4.f1), .int .i64 ((rd_T49 l0 x13_1).f5), .int .i64 ((rd_T49 l0 x13_1).f6)] 49 (0, 0)) (bk_ BK485) hb); replace HB := hbs_ hb; clear hb; obtain ⟨hcz18, hfz18⟩ := bcf_ BK485; obtain ⟨hcz19, hfz19⟩ := bcf_ BK480))
      go_meet
      case rel => exact ⟨_, ((!(((rd_T49 l0 x13_1).f1.f0) == a1_0) || (!(((rd_T49 l0 x13_1).f1.f1) == a1_1)))), rf_, H', ⟨by have := HK1.out; first | omega | exact Nat.le_refl _⟩, ⟨rr_ HO_5⟩, ⟨bk_ BK480⟩, ⟨bk_ BK485⟩, ⟨bl_⟩⟩
     ·replace c14 := Bool.eq_false_iff.mpr c14
      subst c14
      replace H := ite_f_ H
      have H' := Aside0.mk H
      clear H
      have hnb20 := NB485_480.out
      have hnc20 := NB480_485.out
      have hcz21 := blk_cell BK485.out
      have hfz21 := blk_frozen BK485.out
      go_wp2_with (first | ((with_reducible refine gate_callee (f := 30) rfl ?_); refine goesC_ (some 18) Try.func30 #[.agg #[.int .i64 ((rd_T49 l0 x13_1).f0), .int .i64 ((rd_T49 l0 x13_1).f1.f0), .int .i64 ((rd_T49 l0 x13_1).f1.f1), .int .i64 ((rd_T49 l0 x13_1).f2), .int .i64 ((rd_T49 l0 x13_1).f3.f0), .int .i64 ((rd_T49 l0 x13_1).f3.f1), .int .i64 ((rd_T49 l0 x13_1).f4.f0), .int .i64 ((rd_T49 l0 x13_1).f4.f1), .int .i64 ((rd_T49 l0 x13_1).f5), .int .i64 ((rd_T49 l0 x13_1).f6)]] ?_; (with_reducible refine (impl_CredOk.calls k1 ((rd_T49 l0 x13_1).f0) ((rd_T49 l0 x13_1).f1.f0) ((rd_T49 l0 x13_1).f1.f1) ((rd_T49 l0 x13_1).f2) ((rd_T49 l0 x13_1).f3.f0) ((rd_T49 l0 x13_1).f3.f1) ((rd_T49 l0 x13_1).f4.f0) ((rd_T49 l0 x13_1).f4.f1) ((rd_T49 l0 x13_1).f5) ((rd_T49 l0 x13_1).f6) false _ A13.out).mono ?_); rintro e w22 ⟨rfl, hb⟩; refine ⟨_, rfl, ?_⟩; replace HO_5 := Aside0.mk (Kd.R_below (by (with_reducible repeat (first | apply Kd.R_alloc | apply Kd.R_drewN | apply Kd.R_drew)); exact (Kd.R_mono (fr10_ (Kd.R_types HO_5.out BK485.out (by decide)) (fun _ hk => hk.2)) (fun _ h_ => h_.1))) hb); replace BK480 := Aside0.mk (blk_below (g := gb480) (o := .cells #[.int .i64 a1_0, .int .i64 a1_1] 26 (0, 0)) (bk_ BK480) hb); replace BK485 := Aside0.mk (blk_below (g := gb485) (o := .cells #[.int .i64 ((rd_T49 l0 x13_1).f0), .int .i64 ((rd_T49 l0 x13_1).f1.f0), .int .i64 ((rd_T49 l0 x13_1).f1.f1), .int .i64 ((rd_T49 l0 x13_1).f2), .int .i64 ((rd_T49 l0 x13_1).f3.f0), .int .i64 ((rd_T49 l0 x13_1).f3.f1), .int .i64 ((rd_T49 l0 x13_1).f4.f0), .int .i64 ((rd_T49 l0 x13_1).f4.f1), .int .i64 ((rd_T49 l0 x13_1).f5), .int .i64 ((rd_T49 l0 x13_1).f6)] 49 (0, 0)) (bk_ BK485) hb); replace HB := hbs_ hb; clear hb))
      go_meet
      case rel => exact ⟨_, (true), rf_, H', ⟨by have := HK1.out; first | omega | exact Nat.le_refl _⟩, ⟨rr_ HO_5⟩, ⟨bk_ BK480⟩, ⟨bk_ BK485⟩, ⟨bl_⟩⟩
    case rest =>
     clear HC9
     try clear c1
     try clear c2
     try clear p2
     try clear c3
     try clear p4
     try clear q4
     try clear hx4
     try clear c6
     try clear c6b0
     try clear c7
     try clear c7b0
     try clear c8
     try clear c8b0
     try clear c10
     try clear c11
     try clear c14
     try clear c15
     try clear c20
     try clear hcz12
     try clear hcz16
     try clear hcz18
     try clear hcz19
     try clear hcz21
     try clear hfz12
     try clear hfz16
     try clear hfz18
     try clear hfz19
     try clear hfz21
     try clear hx484_0
     try clear hx484_1
     try clear hx484_2
     try clear hx484_3
     try clear hx484_4
     try clear hx484_5
     try clear hx484_6
     try clear hx484_7
     try clear hx484_8
     try clear hx484_9
     try clear p2
     try clear p484
     try clear q484
     obtain ⟨kq, x25_8, rfl, HA, HJ8, HO_5, BK480, BK485, HB⟩ := hcut
     cases kq with
     | zero => exact absurd HA.out (by simp [impl_LeansOn.j1])
     | succ kj8 =>
      have H := HA.out
      clear HA
      simp only [impl_LeansOn.j1] at H
      by_cases c23 : x25_8 = true
      ·subst c23
       replace H := ite_t_ H
       have H' := Aside0.mk H
       clear H
       go_wp2
       go_roundg kj8
       case measure => have := HK1.out; have := HJ8.out; omega
       case rel => exact ⟨(x5_1), (wrap64 (x13_1 + 1)), rf_, H', ⟨by have := HK1.out; have := HJ8.out; omega⟩, ⟨rr_ HO_5⟩, ⟨bk_ BK480⟩, ⟨bl_⟩⟩
      ·replace c23 := Bool.eq_false_iff.mpr c23
       subst c23
       replace H := ite_f_ H
       obtain ⟨t487, A24, H⟩ := bindE_ H
       have H' := Aside0.mk H
       clear H
       have hnb25 := NB485_480.out
       have hnc25 := NB480_485.out
       have hcz26 := blk_cell BK485.out
       have hfz26 := blk_frozen BK485.out
       go_wp2_with (first | ((with_reducible refine gate_callee (f := 31) rfl ?_); refine goesC_ (some 28) Try.func31 #[.slice (some ad484) l0.length c0, .agg #[.int .i64 ((rd_T49 l0 x13_1).f0), .int .i64 ((rd_T49 l0 x13_1).f1.f0), .int .i64 ((rd_T49 l0 x13_1).f1.f1), .int .i64 ((rd_T49 l0 x13_1).f2), .int .i64 ((rd_T49 l0 x13_1).f3.f0), .int .i64 ((rd_T49 l0 x13_1).f3.f1), .int .i64 ((rd_T49 l0 x13_1).f4.f0), .int .i64 ((rd_T49 l0 x13_1).f4.f1), .int .i64 ((rd_T49 l0 x13_1).f5), .int .i64 ((rd_T49 l0 x13_1).f6)]] ?_; (with_reducible refine (impl_leads.calls kj8 _ _ l0 ((rd_T49 l0 x13_1).f0) ((rd_T49 l0 x13_1).f1.f0) ((rd_T49 l0 x13_1).f1.f1) ((rd_T49 l0 x13_1).f2) ((rd_T49 l0 x13_1).f3.f0) ((rd_T49 l0 x13_1).f3.f1) ((rd_T49 l0 x13_1).f4.f0) ((rd_T49 l0 x13_1).f4.f1) ((rd_T49 l0 x13_1).f5) ((rd_T49 l0 x13_1).f6) t487 _ ?side1 ?side2 A24.out).mono ?_); (case side1 => repeat (first | exact (Kd.C_below HR0.out HB.out) | (with_reducible refine Kd.C_alloc ?_ _) | (with_reducible refine Kd.C_drewN ?_ _) | (with_reducible refine Kd.C_drew ?_))); (case side2 => exact HC0.out); rintro e w27 ⟨v488, rfl, ho0, hb⟩; refine ⟨_, rfl, ?_⟩; have HO489 := Aside0.mk (Kd.R_lower (Kd.R_newB (Kd.R_new' ho0 (Kd.R_lt (rr_ HO_5))) (g := gb480) (o := .cells #[.int .i64 a1_0, .int .i64 a1_1] 26 (0, 0)) (bk_ BK480)) bls_); replace HO_5 := Aside0.mk (Kd.R_elder' (rr_ HO_5) (Kd.R_base ho0) hb); replace BK480 := bkb_ BK480 hb; replace BK485 := bkb_ BK485 hb; replace HB := hbs_ hb; (try clear hb ho0); obtain ⟨Ao28, co28, eo28⟩ := Kd.R_slice HO489.out; subst eo28))
       go_loopg [5, 30] kj8 (fun kq v5 v30 w' => ∃ (x5_3 : List (S26)) (x30_3 : Int), v30 = .int .i64 x30_3 ∧ Aside0 (impl_LeansOn.l1 kq l0 x5_3 l0 (l0.length : Int) x13_1 t487 (t487.length : Int) x30_3 a1_0 a1_1 = some r) ∧ Aside0 (kq ≤ kj8) ∧ Aside0 (Kd.R k26 26 w' w.heap.size (fun k_ => some k_ ≠ ((.slice Ao28 t487.length co28) : Value).ownBlock ∧ k_ ≠ gb480) v5 x5_3) ∧ Aside0 (Kd.R k26 26 w' w.heap.size (fun k_ => some k_ ≠ (v5 : Value).ownBlock ∧ k_ ≠ gb480) (.slice Ao28 t487.length co28) t487) ∧ Aside0 (w'.heap[gb480]? = some (.cells #[.int .i64 a1_0, .int .i64 a1_1] 26 (0, 0))) ∧ Aside0 (w'.heap[gb485]? = some (.cells #[.int .i64 ((rd_T49 l0 x13_1).f0), .int .i64 ((rd_T49 l0 x13_1).f1.f0), .int .i64 ((rd_T49 l0 x13_1).f1.f1), .int .i64 ((rd_T49 l0 x13_1).f2), .int .i64 ((rd_T49 l0 x13_1).f3.f0), .int .i64 ((rd_T49 l0 x13_1).f3.f1), .int .i64 ((rd_T49 l0 x13_1).f4.f0), .int .i64 ((rd_T49 l0 x13_1).f4.f1), .int .i64 ((rd_T49 l0 x13_1).f5), .int .i64 ((rd_T49 l0 x13_1).f6)] 49 (0, 0))) ∧ Aside0 (Below w.heap.size w w'))
       case atStart => exact ⟨(x5_1), (0), rf_, H', ⟨Nat.le_refl _⟩, ⟨by (with_reducible repeat (first | apply Kd.R_alloc | apply Kd.R_drewN | apply Kd.R_drew)); exact Kd.R_mono HO_5.out (fun _ hk => ⟨hk.2, hk.1⟩)⟩, ⟨by (with_reducible repeat (first | apply Kd.R_alloc | apply Kd.R_drewN | apply Kd.R_drew)); exact Kd.R_mono HO489.out (fun _ hk => ⟨hk.1.2, hk.2⟩)⟩, ⟨bk_ BK480⟩, ⟨bk_ BK485⟩, ⟨bl_⟩⟩
       case round =>
        clear H'
        try clear c1
        try clear c2
        try clear p2
        try clear c3
        try clear p4
        try clear q4
        try clear hx4
        try clear c6
        try clear c6b0
        try clear p6
        try clear c7
        try clear c7b0
        try clear c8
        try clear c8b0
        try clear c10
        try clear c11
        try clear c14
        try clear c15
        try clear c20
        try clear c23
        try clear c25
        try clear hcz12
        try clear hcz16
        try clear hcz18
        try clear hcz19
        try clear hcz21
        try clear hcz26
        try clear hfz12
        try clear hfz16
        try clear hfz18
        try clear hfz19
        try clear hfz21
        try clear hfz26
        try clear hx484_0
        try clear hx484_1
        try clear hx484_2
        try clear hx484_3
        try clear hx484_4
        try clear hx484_5
        try clear hx484_6
        try clear hx484_7
        try clear hx484_8
        try clear hx484_9
        try clear p2
        try clear p4
        try clear p484
        try clear q4
        try clear q484
        obtain ⟨x5_3, x30_3, rfl, HA, HK3, HO_5, HO_28, BK480, BK485, HB⟩ := hrel
        cases gk with
        | zero => exact absurd HA.out (by simp [impl_LeansOn.l1])
        | succ k3 =>
         have H := HA.out
         clear HA
         simp only [impl_LeansOn.l1] at H
         by_cases c29 : x30_3 < (t487.length : Int)
         ·rw [if_pos c29] at H
          have c29b0 : decide (x30_3 < (t487.length : Int)) = true := decide_eq_true c29
          clear c29
          obtain ⟨c30b0, H⟩ := ifd_ H
          obtain ⟨c31b0, H⟩ := ifd_ H
          obtain ⟨t492, A32, H⟩ := bindE_ H
          have HC33 := Aside0.mk H
          clear H
          have p490 : 0 ≤ (x30_3 : Int) := od_
          have q490 : x30_3 < (t487.length : Int) := od_
          obtain ⟨ad490, e490, hx490_0, hx490_1⟩ := at_T26 (Kd.R_reads' HO_28.out).2.2 x30_3 p490 q490
          cases e490
          replace p490 := eq_true p490
          replace q490 := eq_true q490
          go_upto_if 37 with (first | ((with_reducible refine gate_dst (N := 9) rfl ?_); refine box_event ?hg (N := 9) ?hd (cs := #[.int .i64 0, .int .i64 0]) (t := 26) ?hr ?_; (case hd => rfl); (case hg => rfl); (case hr => first | (go_simp; done) | (go_simp; rfl)); intro gb491 hg w34 hbox hb; replace HO_5 := Aside0.mk (Kd.R_below (Kd.R_elderB (rr_ HO_5) gb491 (Nat.le_of_eq hg.symm)) hb); replace HO_28 := Aside0.mk (Kd.R_below (Kd.R_elderB (rr_ HO_28) gb491 (Nat.le_of_eq hg.symm)) hb); have BK491 := Aside0.mk (hbox); have GW491 := gs_ hg; have GE491 := gs_ hg; replace HB := hbs_ hb; have NB480_491 := nl_ hg BK480; have NB491_480 := nr_ hg BK480; replace BK480 := bkb_ BK480 hb; have NB485_491 := nl_ hg BK485; have NB491_485 := nr_ hg BK485; replace BK485 := bkb_ BK485 hb; clear hb hbox hg; have hnb35 := NB491_480.out; have hnc35 := NB480_491.out; have hnb36 := NB491_485.out; have hnc36 := NB485_491.out; obtain ⟨hcz37, hfz37⟩ := bcf_ BK491; obtain ⟨Ao38, co38, eo38⟩ := Kd.R_slice HO_5.out; subst eo38) | ((with_reducible refine gate_callee (f := 32) rfl ?_); refine goesC_ (some 36) Try.func32 #[.slice Ao38 x5_3.length co38, .agg #[.int .i64 ((rd_T26 t487 x30_3).f0), .int .i64 ((rd_T26 t487 x30_3).f1)]] ?_; (with_reducible refine (impl_Role_32.calls k3 _ _ x5_3 ((rd_T26 t487 x30_3).f0) ((rd_T26 t487 x30_3).f1) t492 _ ?side1 ?side2 A32.out).mono ?_); (case side1 => refine (Kd.R_reads' (e := 26) (base := w.heap.size) (ok := fun k_ => ((some k_ ≠ (.slice (some ad490) t487.length co28 : Value).ownBlock ∧ k_ ≠ gb480) ∧ k_ ≠ gb491)) (n := x5_3.length) (c := co38) ?_).2.2; exact (by (with_reducible repeat (first | apply Kd.R_alloc | apply Kd.R_drewN | apply Kd.R_drew)); exact (Kd.R_mono (fr2_ (Kd.R_mono HO_5.out (fun k_ hk => (⟨hk, hk.2⟩ : _ ∧ k_ ≠ gb491))) (fun _ hk => hk.2)) (fun _ h_ => h_.1)))); (case side2 => exact (Kd.R_reads' HO_5.out).2.1); rintro e w39 ⟨rfl, hb⟩; refine ⟨_, rfl, ?_⟩; replace HO_5 := Aside0.mk (Kd.R_below (by (with_reducible repeat (first | apply Kd.R_alloc | apply Kd.R_drewN | apply Kd.R_drew)); exact (Kd.R_mono (fr2_ (Kd.R_mono HO_5.out (fun k_ hk => (⟨hk, hk.2⟩ : _ ∧ k_ ≠ gb491))) (fun _ hk => hk.2)) (fun _ h_ => h_.1))) hb); replace HO_28 := Aside0.mk (Kd.R_below (by (with_reducible repeat (first | apply Kd.R_alloc | apply Kd.R_drewN | apply Kd.R_drew)); exact (Kd.R_mono (fr2_ (Kd.R_mono HO_28.out (fun k_ hk => (⟨hk, hk.2⟩ : _ ∧ k_ ≠ gb491))) (fun _ hk => hk.2)) (fun _ h_ => h_.1))) hb); replace BK480 := Aside0.mk (blk_below (g := gb480) (o := .cells #[.int .i64 a1_0, .int .i64 a1_1] 26 (0, 0)) (bk_ BK480) hb); replace BK485 := Aside0.mk (blk_below (g := gb485) (o := .cells #[.int .i64 ((rd_T49 l0 x13_1).f0), .int .i64 ((rd_T49 l0 x13_1).f1.f0), .int .i64 ((rd_T49 l0 x13_1).f1.f1), .int .i64 ((rd_T49 l0 x13_1).f2), .int .i64 ((rd_T49 l0 x13_1).f3.f0), .int .i64 ((rd_T49 l0 x13_1).f3.f1), .int .i64 ((rd_T49 l0 x13_1).f4.f0), .int .i64 ((rd_T49 l0 x13_1).f4.f1), .int .i64 ((rd_T49 l0 x13_1).f5), .int .i64 ((rd_T49 l0 x13_1).f6)] 49 (0, 0)) (bk_ BK485) hb); replace BK491 := Aside0.mk (blk_below (g := gb491) (o := .cells #[.int .i64 ((rd_T26 t487 x30_3).f0), .int .i64 ((rd_T26 t487 x30_3).f1)] 26 (0, 0)) (bk_ BK491) hb); replace HB := hbs_ hb; clear hb))
          (try simp only [Act.put, List.setIfInBounds_toArray, List.set_cons_zero, List.set_cons_succ])
          have H := HC33.out
          clear HC33
          by_cases c40 : t492 = true
          ·subst c40
           replace H := ite_t_ H
           have H' := Aside0.mk H
           clear H
           go_wp2
           go_roundg k3
           case measure => have := HK1.out; have := HJ8.out; have := HK3.out; omega
           case rel => exact ⟨(x5_3), (wrap64 (x30_3 + 1)), rf_, H', ⟨by have := HK1.out; have := HJ8.out; have := HK3.out; omega⟩, ⟨by (with_reducible repeat (first | apply Kd.R_alloc | apply Kd.R_drewN | apply Kd.R_drew)); exact Kd.R_mono HO_5.out (fun _ hk => ⟨hk.1.1, hk.1.2⟩)⟩, ⟨by (with_reducible repeat (first | apply Kd.R_alloc | apply Kd.R_drewN | apply Kd.R_drew)); exact Kd.R_mono HO_28.out (fun _ hk => ⟨hk.1.1, hk.1.2⟩)⟩, ⟨bk_ BK480⟩, ⟨bk_ BK485⟩, ⟨bl_⟩⟩
          ·replace c40 := Bool.eq_false_iff.mpr c40
           subst c40
           replace H := ite_f_ H
           obtain ⟨c41, H⟩ := ifn_ H
           have LMc41 := Aside0.mk c41
           clear c41
           obtain ⟨y493, hy493⟩ : ∃ y_ : List (S26), y_ = (x5_3 ++ [(⟨(rd_T26 t487 x30_3).f0, (rd_T26 t487 x30_3).f1⟩ : S26)]) := ⟨_, rfl⟩
           replace H : (impl_LeansOn.l1 k3 l0 y493 l0 (l0.length : Int) x13_1 t487 (t487.length : Int) (wrap64 (x30_3 + 1)) a1_0 a1_1) = some r := rh_ hy493 H
           have Ny493 := Aside0.mk hy493
           clear hy493
           have H' := Aside0.mk H
           clear H
           have hnb42 := NB491_480.out
           have hnc42 := NB480_491.out
           have hnb43 := NB491_485.out
           have hnc43 := NB485_491.out
           have hcz44 := blk_cell BK491.out
           have hfz44 := blk_frozen BK491.out
           go_wp2_with (first | ((with_reducible refine gate_builtin (b := .append) (xs := #[.tmp 38, .tmp 40]) rfl ?_); at_builtin; refine Kd.R_append k26 (w0 := w) w.heap.size rfl (.tmp 38) (.tmp 40) 35 26 (.agg #[(.int .i64 0), (.int .i64 0)]) 16 rfl Try.underlying35 info26 rfl (by decide) (by omega) (.slice Ao38 x5_3.length co38) x5_3 (⟨(rd_T26 t487 x30_3).f0, (rd_T26 t487 x30_3).f1⟩ : S26) [.int .i64 ((rd_T26 t487 x30_3).f0), .int .i64 ((rd_T26 t487 x30_3).f1)] (fun k_ => some k_ ≠ (.slice (some ad490) t487.length co28 : Value).ownBlock ∧ k_ ≠ gb480 ∧ k_ ≠ gb491) (fun _ => False) rfl rfl ?aP (fun _ hk => hk.elim) ?aF ?aO ?aB ?aS ?aL ?_; (case aP => exact k26_mkM _ _ _ (⟨(rd_T26 t487 x30_3).f0, (rd_T26 t487 x30_3).f1⟩ : S26)); (case aB => exact bl_); (case aF => exact (fun k_ hk => ⟨Kd.fresh' (Kd.R_lt (rr_ HO_28)) k_ hk, Kd.freshB (g := gb480) (o := .cells #[.int .i64 a1_0, .int .i64 a1_1] 26 (0, 0)) (bk_ BK480) k_ hk, Kd.freshB (g := gb491) (o := .cells #[.int .i64 ((rd_T26 t487 x30_3).f0), .int .i64 ((rd_T26 t487 x30_3).f1)] 26 (0, 0)) (bk_ BK491) k_ hk⟩)); (case aO => exact (by (with_reducible repeat (first | apply Kd.R_alloc | apply Kd.R_drewN | apply Kd.R_drew)); exact Kd.R_mono HO_5.out (fun _ hk => ⟨hk.1.1, ⟨hk.1.2, hk.2⟩⟩))); (case aS => exact bls_); (case aL => have := LMc41.out; omega); intro v494 w45 ho hb hg hat; rw [← Ny493.out] at ho; replace HO_28 := Aside0.mk (Kd.R_after (ok := (fun k_ => k_ ≠ gb480 ∧ k_ ≠ gb491)) (by (with_reducible repeat (first | apply Kd.R_alloc | apply Kd.R_drewN | apply Kd.R_drew)); exact Kd.R_mono HO_28.out (fun _ hk => ⟨⟨hk.1.2, hk.2⟩, hk.1.1⟩)) hg hat); replace BK480 := Aside0.mk (blk_grown (g := gb480) (o := .cells #[.int .i64 a1_0, .int .i64 a1_1] 26 (0, 0)) (bk_ BK480) hg (Kd.R_away HO_5.out (fun _ hk => hk.1.2))); replace BK485 := Aside0.mk (blk_grown (g := gb485) (o := .cells #[.int .i64 ((rd_T49 l0 x13_1).f0), .int .i64 ((rd_T49 l0 x13_1).f1.f0), .int .i64 ((rd_T49 l0 x13_1).f1.f1), .int .i64 ((rd_T49 l0 x13_1).f2), .int .i64 ((rd_T49 l0 x13_1).f3.f0), .int .i64 ((rd_T49 l0 x13_1).f3.f1), .int .i64 ((rd_T49 l0 x13_1).f4.f0), .int .i64 ((rd_T49 l0 x13_1).f4.f1), .int .i64 ((rd_T49 l0 x13_1).f5), .int .i64 ((rd_T49 l0 x13_1).f6)] 49 (0, 0)) (bk_ BK485) hg (Kd.R_ne HO_5.out BK485.out (by decide))); replace BK491 := Aside0.mk (blk_grown (g := gb491) (o := .cells #[.int .i64 ((rd_T26 t487 x30_3).f0), .int .i64 ((rd_T26 t487 x30_3).f1)] 26 (0, 0)) (bk_ BK491) hg (Kd.R_away HO_5.out (fun _ hk => hk.2))); replace HB := Aside0.mk (hb); have HO495 := Aside0.mk (ho); clear HO_5; clear ho hb hg hat))
           go_roundg k3
           case measure => have := HK1.out; have := HJ8.out; have := HK3.out; omega
           case rel => exact ⟨(y493), (wrap64 (x30_3 + 1)), rf_, H', ⟨by have := HK1.out; have := HJ8.out; have := HK3.out; omega⟩, ⟨by (with_reducible repeat (first | apply Kd.R_alloc | apply Kd.R_drewN | apply Kd.R_drew)); exact Kd.R_mono HO495.out (fun _ hk => ⟨hk.1, hk.2.1⟩)⟩, ⟨by (with_reducible repeat (first | apply Kd.R_alloc | apply Kd.R_drewN | apply Kd.R_drew)); exact Kd.R_mono HO_28.out (fun _ hk => ⟨hk.2, hk.1.1⟩)⟩, ⟨bk_ BK480⟩, ⟨bk_ BK485⟩, ⟨bl_⟩⟩
         ·rw [if_neg c29] at H
          have c29b0 : decide (x30_3 < (t487.length : Int)) = false := decide_eq_false c29
          clear c29
          have H' := Aside0.mk H
          clear H
          go_wp2
          go_roundg k3
          case measure => have := HK1.out; have := HJ8.out; have := HK3.out; omega
          case rel => exact ⟨(x5_3), (wrap64 (x13_1 + 1)), rf_, H', ⟨by have := HK1.out; have := HJ8.out; have := HK3.out; omega⟩, ⟨by (with_reducible repeat (first | apply Kd.R_alloc | apply Kd.R_drewN | apply Kd.R_drew)); exact Kd.R_mono HO_5.out (fun _ hk => hk.2)⟩, ⟨bk_ BK480⟩, ⟨bl_⟩⟩
   ·rw [if_neg c6] at H
    have c6b0 : decide (x13_1 < (l0.length : Int)) = false := decide_eq_false c6
    clear c6
    obtain rfl := Option.some.inj H
    go_wp2
    go_ret
    exact ⟨_, eq_, by (with_reducible repeat (first | apply Kd.R_alloc | apply Kd.R_drewN | apply Kd.R_drew)); exact Kd.R_mono HO_5.out (fun _ hk => trivial), bl_⟩
def spec_l01In.f (a0 : Int) (a1 : Int) (a2 : Int) : Option (Bool) := if a0 ≥ a1 then (some (decide (a0 ≤ a2))) else (some false)
set_option maxHeartbeats 8000000 in
set_option maxRecDepth 100000 in
theorem spec_l01In.calls (a0 : Int) (a1 : Int) (a2 : Int) (r : Bool) (w : World) (h : spec_l01In.f a0 a1 a2 = some r) :
  Calls Try.prog 54 #[.int .i64 a0, .int .i64 a1, .int .i64 a2] w fun e w' => e = .returned (.bool r) ∧ Drawn0 w w' := by
 have H : (if a0 ≥ a1 then (some (decide (a0 ≤ a2))) else (some false)) = some r := h
 clear h
 by_cases c4 : a0 ≥ a1
 ·rw [if_pos c4] at H
  have c4b0 : decide (a1 ≤ a0) = true := decide_eq_true c4
  clear c4
  obtain rfl := Option.some.inj H
  go_enter Try.func54, Try.ntmps54
  go_wp2
  go_ret
  exact ⟨by first | rfl | (simp; done) | (simp [*]; done), by repeat (first | exact Drawn0.refl _ | apply Drawn0.step)⟩
 ·rw [if_neg c4] at H
  have c4b0 : decide (a1 ≤ a0) = false := decide_eq_false c4
  clear c4
  obtain rfl := Option.some.inj H
  go_enter Try.func54, Try.ntmps54
  go_wp2
  go_ret
  exact ⟨by first | rfl | (simp; done) | (simp [*]; done), by repeat (first | exact Drawn0.refl _ | apply Drawn0.step)⟩
end Go.Proofs.Ytamhfnedknjjbaa.PB
