import Derived.Test.YtamhfnedknjjbaaKTPBx7
-- printed by wip/tools
namespace Go.Proofs.Ytamhfnedknjjbaa.PB
open Go.RowKit Go.Proofs.YtamhfnedknjjbaaW.PrintWords Go.Proofs.YtamhfnedknjjbaaW.PrintLast Go.Proofs.YtamhfnedknjjbaaW.PrintMore
attribute [local go_sem] max2_int min2_int max_two min_two max_three min_three max_four min_four
set_option linter.unusedVariables false
set_option linter.unusedSimpArgs false
attribute [local go_sem high] eqA26
def impl_whoOf.l0 : Nat → List Int → List (S58) → Int → Int → Int → Int → Option (List Int)
 | 0, _, _, _, _, _, _ => none
 | k + 1, x5, x9, x10, x11, x354000, x354001 => if x11 < x10 then (if 0 ≤ x11 then (if x11 < (x9.length : Int) then (if (((rd_T58 x9 x11).f0.f0) == x354000 && (((rd_T58 x9 x11).f0.f1) == x354001)) = true then ((impl_factOk.f ((rd_T58 x9 x11).f0.f0) ((rd_T58 x9 x11).f0.f1) ((rd_T58 x9 x11).f1)).bind fun t359 => (if t359 = true then (if x5.length < 17592186044416 then (impl_whoOf.l0 k (x5 ++ [x11]) x9 x10 (wrap64 (x11 + 1)) x354000 x354001) else (none)) else (impl_whoOf.l0 k x5 x9 x10 (wrap64 (x11 + 1)) x354000 x354001))) else (impl_whoOf.l0 k x5 x9 x10 (wrap64 (x11 + 1)) x354000 x354001)) else (none)) else (none)) else (some x5)
def impl_whoOf.f (k : Nat) (l0 : List (S58)) (a1_0 : Int) (a1_1 : Int) : Option (List Int) := impl_whoOf.l0 k (([] : List Int)) l0 (l0.length : Int) 0 a1_0 a1_1
set_option maxHeartbeats 8000000 in
set_option maxRecDepth 100000 in
theorem impl_whoOf.calls (k : Nat) (A0 : Option Addr) (c0 : Nat) (l0 : List (S58)) (a1_0 : Int) (a1_1 : Int) (r : List Int) (w : World) (hr0 : Kd.C k58 w A0 l0.length l0) (hc0 : l0.length ≤ c0) (h : impl_whoOf.f k l0 a1_0 a1_1 = some r) :
  Calls Try.prog 80 #[.slice A0 l0.length c0, .agg #[.int .i64 a1_0, .int .i64 a1_1]] w fun e w' => ∃ v0_ : Value, e = .returned (v0_) ∧ Kd.R (Kd.int .i64) 3 w' w.heap.size (fun _ => True) v0_ r ∧ Below w.heap.size w w' := by
 have hu26 := Try.underlying26
 have hu58 := Try.underlying58
 have HR0 := Aside0.mk hr0
 have HC0 := Aside0.mk hc0
 clear hr0 hc0
 have HB := Aside0.mk (Below.refl w.heap.size w)
 have H : (impl_whoOf.l0 k (([] : List Int)) l0 (l0.length : Int) 0 a1_0 a1_1) = some r := h
 clear h
 obtain ⟨y354, hy354⟩ : ∃ y_ : List Int, y_ = (([] : List Int)) := ⟨_, rfl⟩
 replace H : (impl_whoOf.l0 k y354 l0 (l0.length : Int) 0 a1_0 a1_1) = some r := rh_ hy354 H
 have Ny354 := Aside0.mk hy354
 clear hy354
 have H' := Aside0.mk H
 clear H
 go_enter Try.func80, Try.ntmps80
 go_wp2_with (first | ((with_reducible refine gate_dst (N := 3) rfl ?_); refine box_event ?hg (N := 3) ?hd (cs := #[.int .i64 a1_0, .int .i64 a1_1]) (t := 26) ?hr ?_; (case hd => rfl); (case hg => rfl); (case hr => first | (go_simp; done) | (go_simp; rfl)); intro gb353 hg w3 hbox hb; have BK353 := Aside0.mk (hbox); have GW353 := gs_ hg; have GE353 := gs_ hg; replace HB := hbs_ hb; clear hb hbox hg) | ((with_reducible refine gate_dst (N := 8) rfl ?_); refine Kd.R_lit (Kd.int .i64) _ 3 ?hg (N := 8) ?hd (xs := ([] : List Int)) (inner := []) (ok := fun _ => True) (okp := fun _ => True) ?hr ?hp (fun _ hk => hk) trivial (Below.refl _ _) (Nat.le_refl _) (by simp) ?_; (case hd => rfl); (case hg => rfl); (case hr => first | (go_simp; done) | (go_simp; rfl)); (case hp => exact (Reps.none _ _)); intro v355 w4 ho5 hb hg_ hnew_; clear hg_ hnew_; (first | rw [← Ny354.out] at ho5 | (simp only [Int.reduceToNat] at ho5; rw [← Ny354.out] at ho5)); have HO356 := Aside0.mk (Kd.R_lower ho5 bls_); replace BK353 := bkb_ BK353 hb; replace HB := hbs_ hb; clear hb ho5))
 go_loopg [5, 11] k (fun kq v5 v11 w' => ∃ (x5_1 : List Int) (x11_1 : Int), v11 = .int .i64 x11_1 ∧ Aside0 (impl_whoOf.l0 kq x5_1 l0 (l0.length : Int) x11_1 a1_0 a1_1 = some r) ∧ Aside0 (kq ≤ k) ∧ Aside0 (Kd.R (Kd.int .i64) 3 w' w.heap.size (fun _ => True) v5 x5_1) ∧ Aside0 (w'.heap[gb353]? = some (.cells #[.int .i64 a1_0, .int .i64 a1_1] 26 (0, 0))) ∧ Aside0 (Below w.heap.size w w'))
 case atStart => exact ⟨(y354), (0), rf_, H', ⟨Nat.le_refl _⟩, ⟨rr_ HO356⟩, ⟨bk_ BK353⟩, ⟨bl_⟩⟩
 case round =>
  clear H'
  try clear p2
  obtain ⟨x5_1, x11_1, rfl, HA, HK1, HO_5, BK353, HB⟩ := hrel
  cases gk with
  | zero => exact absurd HA.out (by simp [impl_whoOf.l0])
  | succ k1 =>
   have H := HA.out
   clear HA
   simp only [impl_whoOf.l0] at H
   by_cases c6 : x11_1 < (l0.length : Int)
   ·rw [if_pos c6] at H
    have c6b0 : decide (x11_1 < (l0.length : Int)) = true := decide_eq_true c6
    clear c6
    obtain ⟨c7b0, H⟩ := ifd_ H
    obtain ⟨c8b0, H⟩ := ifd_ H
    by_cases c9 : (((rd_T58 l0 x11_1).f0.f0) == a1_0 && (((rd_T58 l0 x11_1).f0.f1) == a1_1)) = true
    ·rw [if_pos c9] at H
     have c9b0 : (((rd_T58 l0 x11_1).f0.f0) == a1_0 && (((rd_T58 l0 x11_1).f0.f1) == a1_1)) = true := c9
     (try (have c9b1 : decide (((rd_T58 l0 x11_1).f0.f0) = a1_0 && (((rd_T58 l0 x11_1).f0.f1) == a1_1)) = true := by simpa using c9))
     (try (have c9b2 : (((rd_T58 l0 x11_1).f0.f0) == a1_0 && (((rd_T58 l0 x11_1).f0.f1) == a1_1)) = true := by simpa using c9))
     clear c9
     obtain ⟨t359, A10, H⟩ := bindE_ H
     have HC11 := Aside0.mk H
     clear H
     have p357 : 0 ≤ (x11_1 : Int) := od_
     have q357 : x11_1 < (l0.length : Int) := od_
     obtain ⟨ad357, e357, hx357_0, hx357_1, hx357_2⟩ := at_T58 (Kd.C_below HR0.out HB.out) x11_1 p357 q357
     cases e357
     replace p357 := eq_true p357
     replace q357 := eq_true q357
     go_upto_if 23 with (first | ((with_reducible refine gate_dst (N := 7) rfl ?_); refine box_event ?hg (N := 7) ?hd (cs := #[.int .i64 0, .int .i64 0, .int .i64 0]) (t := 58) ?hr ?_; (case hd => rfl); (case hg => rfl); (case hr => first | (go_simp; done) | (go_simp; rfl)); intro gb358 hg w12 hbox hb; replace HO_5 := hob_ HO_5 hb; have BK358 := Aside0.mk (hbox); have GW358 := gs_ hg; have GE358 := gs_ hg; replace HB := hbs_ hb; have NB353_358 := nl_ hg BK353; have NB358_353 := nr_ hg BK353; replace BK353 := bkb_ BK353 hb; clear hb hbox hg; have hnb13 := NB358_353.out; have hnc13 := NB353_358.out; obtain ⟨hcz14, hfz14⟩ := bcf_ BK358; obtain ⟨hcz15, hfz15⟩ := bcf_ BK353) | (go_at_call 87; (with_reducible refine (impl_factOk.calls ((rd_T58 l0 x11_1).f0.f0) ((rd_T58 l0 x11_1).f0.f1) ((rd_T58 l0 x11_1).f1) t359 _ A10.out).mono ?_); rintro e w16 ⟨rfl, hb⟩; replace HO_5 := Aside0.mk (Kd.R_below (by (with_reducible repeat (first | apply Kd.R_alloc | apply Kd.R_drewN | apply Kd.R_drew)); exact (Kd.R_mono (fr3_ (Kd.R_types HO_5.out BK358.out (by decide)) (fun _ hk => hk.2)) (fun _ h_ => h_.1))) hb); replace BK353 := Aside0.mk (blk_below (g := gb353) (o := .cells #[.int .i64 a1_0, .int .i64 a1_1] 26 (0, 0)) (bk_ BK353) hb); replace BK358 := Aside0.mk (blk_below (g := gb358) (o := .cells #[.int .i64 ((rd_T58 l0 x11_1).f0.f0), .int .i64 ((rd_T58 l0 x11_1).f0.f1), .int .i64 ((rd_T58 l0 x11_1).f1)] 58 (0, 0)) (bk_ BK358) hb); replace HB := hbs_ hb; clear hb))
     (try simp only [Act.put, List.setIfInBounds_toArray, List.set_cons_zero, List.set_cons_succ])
     have H := HC11.out
     clear HC11
     by_cases c17 : t359 = true
     ·subst c17
      replace H := ite_t_ H
      obtain ⟨c18, H⟩ := ifn_ H
      have LMc18 := Aside0.mk c18
      clear c18
      obtain ⟨y360, hy360⟩ : ∃ y_ : List Int, y_ = (x5_1 ++ [x11_1]) := ⟨_, rfl⟩
      replace H : (impl_whoOf.l0 k1 y360 l0 (l0.length : Int) (wrap64 (x11_1 + 1)) a1_0 a1_1) = some r := rh_ hy360 H
      have Ny360 := Aside0.mk hy360
      clear hy360
      have H' := Aside0.mk H
      clear H
      go_wp2_with (first | ((with_reducible refine gate_builtin (b := .append) (xs := #[.tmp 24, .tmp 26]) rfl ?_); at_builtin; refine Kd.R_append (Kd.int .i64) (w0 := w) w.heap.size rfl (.tmp 24) (.tmp 26) 42 3 (.int .i64 0) 8 rfl Try.underlying42 info3 rfl (by decide) (by omega) u5 x5_1 x11_1 [.int .i64 x11_1] (fun _ => True) (fun _ => False) rfl rfl ?aP (fun _ hk => hk.elim) ?aF ?aO ?aB ?aS ?aL ?_; (case aP => exact rfl); (case aB => exact bl_); (case aF => exact (fun _ _ => trivial)); (case aO => exact (rr_ HO_5)); (case aS => exact bls_); (case aL => have := LMc18.out; omega); intro v361 w19 ho hb hg hat; rw [← Ny360.out] at ho; replace BK353 := Aside0.mk (blk_grown (g := gb353) (o := .cells #[.int .i64 a1_0, .int .i64 a1_1] 26 (0, 0)) (bk_ BK353) hg (Kd.R_ne HO_5.out BK353.out (by decide))); replace BK358 := Aside0.mk (blk_grown (g := gb358) (o := .cells #[.int .i64 ((rd_T58 l0 x11_1).f0.f0), .int .i64 ((rd_T58 l0 x11_1).f0.f1), .int .i64 ((rd_T58 l0 x11_1).f1)] 58 (0, 0)) (bk_ BK358) hg (Kd.R_ne HO_5.out BK358.out (by decide))); replace HB := Aside0.mk (hb); have HO362 := Aside0.mk (ho); clear HO_5; clear ho hb hg hat))
      go_roundg k1
      case measure => have := HK1.out; omega
      case rel => exact ⟨(y360), (wrap64 (x11_1 + 1)), rf_, H', ⟨by have := HK1.out; omega⟩, ⟨rr_ HO362⟩, ⟨bk_ BK353⟩, ⟨bl_⟩⟩
     ·replace c17 := Bool.eq_false_iff.mpr c17
      subst c17
      replace H := ite_f_ H
      have H' := Aside0.mk H
      clear H
      go_wp2
      go_roundg k1
      case measure => have := HK1.out; omega
      case rel => exact ⟨(x5_1), (wrap64 (x11_1 + 1)), rf_, H', ⟨by have := HK1.out; omega⟩, ⟨rr_ HO_5⟩, ⟨bk_ BK353⟩, ⟨bl_⟩⟩
    ·rw [if_neg c9] at H
     have c9b0 : (((rd_T58 l0 x11_1).f0.f0) == a1_0 && (((rd_T58 l0 x11_1).f0.f1) == a1_1)) = false := by simpa using c9
     (try (have c9b1 : decide (((rd_T58 l0 x11_1).f0.f0) = a1_0 && (((rd_T58 l0 x11_1).f0.f1) == a1_1)) = false := by simpa using c9))
     (try (have c9b2 : (((rd_T58 l0 x11_1).f0.f0) == a1_0 && (((rd_T58 l0 x11_1).f0.f1) == a1_1)) = false := by simpa using c9))
     (try (have c9b3 : ¬ (((rd_T58 l0 x11_1).f0.f0) = a1_0 && (((rd_T58 l0 x11_1).f0.f1) == a1_1)) := by simpa using c9))
     clear c9
     have H' := Aside0.mk H
     clear H
     have p357 : 0 ≤ (x11_1 : Int) := od_
     have q357 : x11_1 < (l0.length : Int) := od_
     obtain ⟨ad357, e357, hx357_0, hx357_1, hx357_2⟩ := at_T58 (Kd.C_below HR0.out HB.out) x11_1 p357 q357
     cases e357
     replace p357 := eq_true p357
     replace q357 := eq_true q357
     go_wp2_with (first | ((with_reducible refine gate_dst (N := 7) rfl ?_); refine box_event ?hg (N := 7) ?hd (cs := #[.int .i64 0, .int .i64 0, .int .i64 0]) (t := 58) ?hr ?_; (case hd => rfl); (case hg => rfl); (case hr => first | (go_simp; done) | (go_simp; rfl)); intro gb358 hg w20 hbox hb; replace HO_5 := hob_ HO_5 hb; have BK358 := Aside0.mk (hbox); have GW358 := gs_ hg; have GE358 := gs_ hg; replace HB := hbs_ hb; have NB353_358 := nl_ hg BK353; have NB358_353 := nr_ hg BK353; replace BK353 := bkb_ BK353 hb; clear hb hbox hg; have hnb21 := NB358_353.out; have hnc21 := NB353_358.out; obtain ⟨hcz22, hfz22⟩ := bcf_ BK358; obtain ⟨hcz23, hfz23⟩ := bcf_ BK353))
     go_roundg k1
     case measure => have := HK1.out; omega
     case rel => exact ⟨(x5_1), (wrap64 (x11_1 + 1)), rf_, H', ⟨by have := HK1.out; omega⟩, ⟨by (with_reducible repeat (first | apply Kd.R_alloc | apply Kd.R_drewN | apply Kd.R_drew)); exact Kd.R_mono (fr3_ (Kd.R_types HO_5.out BK358.out (by decide)) (fun _ hk => hk.2)) (fun _ hk => trivial)⟩, ⟨bk_ BK353⟩, ⟨bl_⟩⟩
   ·rw [if_neg c6] at H
    have c6b0 : decide (x11_1 < (l0.length : Int)) = false := decide_eq_false c6
    clear c6
    obtain rfl := Option.some.inj H
    go_wp2
    go_ret
    exact ⟨_, eq_, by (with_reducible repeat (first | apply Kd.R_alloc | apply Kd.R_drewN | apply Kd.R_drew)); exact HO_5.out, bl_⟩
end Go.Proofs.Ytamhfnedknjjbaa.PB
