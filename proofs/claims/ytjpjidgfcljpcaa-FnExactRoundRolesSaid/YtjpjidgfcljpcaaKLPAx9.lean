import Derived.Test.YtjpjidgfcljpcaaKLPAx8
-- printed by wip/tools
namespace Go.Proofs.Ytjpjidgfcljpcaa.PA
open Go.RowKit Go.Proofs.YtjpjidgfcljpcaaW.PrintWords Go.Proofs.YtjpjidgfcljpcaaW.PrintLast Go.Proofs.YtjpjidgfcljpcaaW.PrintMore
attribute [local go_sem] max2_int min2_int max_two min_two max_three min_three max_four min_four
set_option linter.unusedVariables false
set_option linter.unusedSimpArgs false
attribute [local go_sem high] eqA49
def slices_Sort_int_int.f (l0 : List (Int)) : Option (List (Int)) := if l0.length < 4611686018427387904 then some (l0.mergeSort fun x y => decide (x ≤ y)) else none
open Go.Sort in
theorem slices_Sort_int_int.calls (P0_ : Nat → Prop) (u9000_ : Value) (l0 : List (Int)) (r0 : List (Int)) (w0 w : World) (hB : Below w0.heap.size w0 w) (ho0 : Kd.R (Kd.int .i64) 3 w w0.heap.size P0_ u9000_ l0) (h : slices_Sort_int_int.f l0 = some r0) :
  Calls Try.prog 97 #[u9000_] w fun e w' => e = .returned (.tuple #[]) ∧ Kd.R (Kd.int .i64) 3 w' w0.heap.size (fun k_ => (P0_ k_ ∨ w.heap.size ≤ k_)) u9000_ r0 ∧ Below w0.heap.size w0 w' ∧ Kept w w' (fun k_ => P0_ k_) := by
 unfold slices_Sort_int_int.f at h
 by_cases hl : l0.length < 4611686018427387904
 ·rw [if_pos hl] at h
  obtain rfl := Option.some.inj h
  have hml : (l0.mergeSort fun x y => decide (x ≤ y)).length = l0.length := List.length_mergeSort _
  have hown := Kd.own_of_R (enc := Value.int .i64) ho0
  obtain ⟨e1, hf⟩ := hown
  rcases hf with ⟨rfl, hn⟩ | ⟨g, cap, cur, rfl, hg, hb, hn, hc, hs, ht⟩
  ·have e0 : l0 = [] := List.length_eq_zero_iff.1 hn
   subst e0
   have hcon := Any.slices_Sort_int_none Try.lays189 none 0 w
   change Calls Try.prog 97 _ _ _ at hcon
   refine hcon.mono ?_
   rintro e w' ⟨rfl, rfl⟩
   have e1 : (([] : List Int).mergeSort fun x y => decide (x ≤ y)) = [] := by simp
   rw [e1]
   exact ⟨rfl, Kd.R_nil _ _ _ _ _, hB, Kept.refl _ _⟩
  ·have hcon := Any.slices_Sort_int Try.lays189 g 0 cap l0 w (holds_of_blockI hb (by rw [Nat.mul_one] at ht; exact ht)) (blk_lt hb) hl
   change Calls Try.prog 97 _ _ _ at hcon
   refine hcon.mono ?_
   rintro e w' ⟨rfl, n, os, rfl⟩
   refine ⟨rfl, ?_, hB.grown (grownBy_sortedI _) hB.size (fun k hk => by injection hk with hk; omega), Kept.of_grown (grownBy_sortedI _) (Kept.refl _ _) (fun k hk => .inl (ho0.1 k hk))⟩
   have ho := ownsRow_sortedI (n := n) (os := os) hml hg hb hn hc hs
   rw [← hml] at ho ⊢
   exact Kd.R_of_own ho (fun k hk => .inl (ho0.1 k hk))
 ·rw [if_neg hl] at h
  exact absurd h (by simp)
def impl_MembersOf.l0 : Nat → List Int → List (S51) → Int → Int → Int → Int → Option (List Int)
 | 0, _, _, _, _, _, _ => none
 | k + 1, x5, x10, x11, x12, x268000, x268001 => if x12 < x11 then (if 0 ≤ x12 then (if x12 < (x10.length : Int) then (if (((rd_T51 x10 x12).f0.f0) == x268000 && (((rd_T51 x10 x12).f0.f1) == x268001)) = true then (if x5.length < 17592186044416 then (impl_MembersOf.l0 k (x5 ++ [(rd_T51 x10 x12).f1]) x10 x11 (wrap64 (x12 + 1)) x268000 x268001) else (none)) else (impl_MembersOf.l0 k x5 x10 x11 (wrap64 (x12 + 1)) x268000 x268001)) else (none)) else (none)) else ((slices_Sort_int_int.f x5).bind fun t279 => (some t279))
def impl_MembersOf.f (k : Nat) (l0 : List (S56)) (a1_0 : Int) (a1_1 : Int) : Option (List Int) := (impl_FactsOf.f k l0).bind fun t271 => (impl_MembersOf.l0 k (([] : List Int)) t271 (t271.length : Int) 0 a1_0 a1_1)
set_option maxHeartbeats 8000000 in
set_option maxRecDepth 100000 in
theorem impl_MembersOf.calls (k : Nat) (A0 : Option Addr) (c0 : Nat) (l0 : List (S56)) (a1_0 : Int) (a1_1 : Int) (r : List Int) (w : World) (hr0 : Kd.C k56 w A0 l0.length l0) (hc0 : l0.length ≤ c0) (h : impl_MembersOf.f k l0 a1_0 a1_1 = some r) :
  Calls Try.prog 183 #[.slice A0 l0.length c0, .agg #[.int .i64 a1_0, .int .i64 a1_1]] w fun e w' => ∃ v0_ : Value, e = .returned (v0_) ∧ Kd.R (Kd.int .i64) 3 w' w.heap.size (fun _ => True) v0_ r ∧ Below w.heap.size w w' := by
 have hu49 := Try.underlying49
 have hu51 := Try.underlying51
 have HR0 := Aside0.mk hr0
 have HC0 := Aside0.mk hc0
 clear hr0 hc0
 have HB := Aside0.mk (Below.refl w.heap.size w)
 have H : ((impl_FactsOf.f k l0).bind fun t271 => (impl_MembersOf.l0 k (([] : List Int)) t271 (t271.length : Int) 0 a1_0 a1_1)) = some r := h
 clear h
 obtain ⟨y268, hy268⟩ : ∃ y_ : List Int, y_ = (([] : List Int)) := ⟨_, rfl⟩
 replace H : ((impl_FactsOf.f k l0).bind fun t271 => (impl_MembersOf.l0 k y268 t271 (t271.length : Int) 0 a1_0 a1_1)) = some r := by first | (rw [hy268]; with_reducible exact H) | (have H2_ := (Option.bind_some _ _).symm.trans H; rw [hy268]; with_reducible exact H2_) | (have H2_ := (Option.bind_some _ _).symm.trans H; with_reducible exact H2_) | with_reducible exact H | (rw [hy268]; exact H) | exact H
 have Ny268 := Aside0.mk hy268
 clear hy268
 obtain ⟨t271, A3, H⟩ := bindE_ H
 have H' := Aside0.mk H
 clear H
 go_enter Try.func183, Try.ntmps183
 go_wp2_with (first | ((with_reducible refine gate_dst (N := 3) rfl ?_); refine box_event ?hg (N := 3) ?hd (cs := #[.int .i64 a1_0, .int .i64 a1_1]) (t := 49) ?hr ?_; (case hd => rfl); (case hg => rfl); (case hr => first | (go_simp; done) | (go_simp; rfl)); intro gb267 hg w4 hbox hb; have BK267 := Aside0.mk (hbox); have GW267 := gs_ hg; have GE267 := gs_ hg; replace HB := hbs_ hb; clear hb hbox hg) | ((with_reducible refine gate_dst (N := 8) rfl ?_); refine Kd.R_lit (Kd.int .i64) _ 3 ?hg (N := 8) ?hd (xs := ([] : List Int)) (inner := []) (ok := fun _ => True) (okp := fun _ => True) ?hr ?hp (fun _ hk => hk) trivial (Below.refl _ _) (Nat.le_refl _) (by simp) ?_; (case hd => rfl); (case hg => rfl); (case hr => first | (go_simp; done) | (go_simp; rfl)); (case hp => exact (Reps.none _ _)); intro v269 w5 ho6 hb hg_ hnew_; clear hg_ hnew_; (first | rw [← Ny268.out] at ho6 | (simp only [Int.reduceToNat] at ho6; rw [← Ny268.out] at ho6)); have HO270 := Aside0.mk (Kd.R_lower ho6 bls_); replace BK267 := bkb_ BK267 hb; replace HB := hbs_ hb; clear hb ho6) | ((with_reducible refine gate_callee (f := 90) rfl ?_); refine goesC_ (some 10) Try.func90 #[.slice A0 l0.length c0] ?_; (with_reducible refine (impl_FactsOf.calls k _ _ l0 t271 _ ?side1 ?side2 A3.out).mono ?_); (case side1 => repeat (first | exact (Kd.C_below HR0.out HB.out) | (with_reducible refine Kd.C_alloc ?_ _) | (with_reducible refine Kd.C_drewN ?_ _) | (with_reducible refine Kd.C_drew ?_))); (case side2 => exact HC0.out); rintro e w7 ⟨v272, rfl, ho0, hb⟩; refine ⟨_, rfl, ?_⟩; replace HO270 := hob_ HO270 hb; have HO273 := Aside0.mk (Kd.R_lower ho0 bls_); replace BK267 := bkb_ BK267 hb; replace HB := hbs_ hb; (try clear hb); (try clear hb2); (try clear hk); (try clear hi); (try clear ho0); obtain ⟨Ao8, co8, eo8⟩ := Kd.R_slice HO273.out; subst eo8))
 go_loopg [5, 12] k (fun kq v5 v12 w' => ∃ (x5_1 : List Int) (x12_1 : Int), v12 = .int .i64 x12_1 ∧ Aside0 (impl_MembersOf.l0 kq x5_1 t271 (t271.length : Int) x12_1 a1_0 a1_1 = some r) ∧ Aside0 (kq ≤ k) ∧ Aside0 (Kd.R (Kd.int .i64) 3 w' w.heap.size (fun _ => True) v5 x5_1) ∧ Aside0 (Kd.R k51 51 w' w.heap.size (fun _ => True) (.slice Ao8 t271.length co8) t271) ∧ Aside0 (w'.heap[gb267]? = some (.cells #[.int .i64 a1_0, .int .i64 a1_1] 49 (0, 0))) ∧ Aside0 (Below w.heap.size w w'))
 case atStart => exact ⟨(y268), (0), rf_, H', ⟨Nat.le_refl _⟩, ⟨by (with_reducible repeat (first | apply Kd.R_alloc | apply Kd.R_drewN | apply Kd.R_drew)); exact HO270.out⟩, ⟨by (with_reducible repeat (first | apply Kd.R_alloc | apply Kd.R_drewN | apply Kd.R_drew)); exact HO273.out⟩, ⟨bk_ BK267⟩, ⟨bl_⟩⟩
 case round =>
  clear H'
  try clear c1
  try clear p2
  obtain ⟨x5_1, x12_1, rfl, HA, HK1, HO_5, HO_10, BK267, HB⟩ := hrel
  cases gk with
  | zero => exact absurd HA.out (by simp [impl_MembersOf.l0])
  | succ k1 =>
   have H := HA.out
   clear HA
   simp only [impl_MembersOf.l0] at H
   by_cases c9 : x12_1 < (t271.length : Int)
   ·rw [if_pos c9] at H
    have c9b0 : decide (x12_1 < (t271.length : Int)) = true := decide_eq_true c9
    clear c9
    obtain ⟨c10b0, H⟩ := ifd_ H
    obtain ⟨c11b0, H⟩ := ifd_ H
    by_cases c12 : (((rd_T51 t271 x12_1).f0.f0) == a1_0 && (((rd_T51 t271 x12_1).f0.f1) == a1_1)) = true
    ·rw [if_pos c12] at H
     have c12b0 : (((rd_T51 t271 x12_1).f0.f0) == a1_0 && (((rd_T51 t271 x12_1).f0.f1) == a1_1)) = true := c12
     (try (have c12b1 : decide (((rd_T51 t271 x12_1).f0.f0) = a1_0 && (((rd_T51 t271 x12_1).f0.f1) == a1_1)) = true := by simpa using c12))
     (try (have c12b2 : (((rd_T51 t271 x12_1).f0.f0) == a1_0 && (((rd_T51 t271 x12_1).f0.f1) == a1_1)) = true := by simpa using c12))
     clear c12
     obtain ⟨c13, H⟩ := ifn_ H
     have LMc13 := Aside0.mk c13
     clear c13
     obtain ⟨y276, hy276⟩ : ∃ y_ : List Int, y_ = (x5_1 ++ [(rd_T51 t271 x12_1).f1]) := ⟨_, rfl⟩
     replace H : (impl_MembersOf.l0 k1 y276 t271 (t271.length : Int) (wrap64 (x12_1 + 1)) a1_0 a1_1) = some r := by first | (rw [hy276]; with_reducible exact H) | (have H2_ := (Option.bind_some _ _).symm.trans H; rw [hy276]; with_reducible exact H2_) | (have H2_ := (Option.bind_some _ _).symm.trans H; with_reducible exact H2_) | with_reducible exact H | (rw [hy276]; exact H) | exact H
     have Ny276 := Aside0.mk hy276
     clear hy276
     have H' := Aside0.mk H
     clear H
     have p274 : 0 ≤ (x12_1 : Int) := od_
     have q274 : x12_1 < (t271.length : Int) := od_
     obtain ⟨ad274, e274, hx274_0, hx274_1, hx274_2⟩ := at_T51 (Kd.R_reads' HO_10.out).2.2 x12_1 p274 q274
     cases e274
     replace p274 := eq_true p274
     replace q274 := eq_true q274
     go_wp2_with (first | ((with_reducible refine gate_dst (N := 7) rfl ?_); refine box_event ?hg (N := 7) ?hd (cs := #[.int .i64 0, .int .i64 0, .int .i64 0]) (t := 51) ?hr ?_; (case hd => rfl); (case hg => rfl); (case hr => first | (go_simp; done) | (go_simp; rfl)); intro gb275 hg w14 hbox hb; replace HO_5 := hob_ HO_5 hb; replace HO_10 := Aside0.mk (Kd.R_below (Kd.R_elderB (by (with_reducible repeat (first | apply Kd.R_alloc | apply Kd.R_drewN | apply Kd.R_drew)); exact HO_10.out) gb275 (Nat.le_of_eq hg.symm)) hb); have BK275 := Aside0.mk (hbox); have GW275 := gs_ hg; have GE275 := gs_ hg; replace HB := hbs_ hb; have NB267_275 := nl_ hg BK267; have NB275_267 := nr_ hg BK267; replace BK267 := bkb_ BK267 hb; clear hb hbox hg; have hnb15 := NB275_267.out; have hnc15 := NB267_275.out; have hcz16 := blk_cell BK275.out; have hfz16 := blk_frozen BK275.out; have hcz17 := blk_cell BK267.out; have hfz17 := blk_frozen BK267.out) | ((with_reducible refine gate_builtin (b := .append) (xs := #[.tmp 20, .tmp 23]) rfl ?_); at_builtin; refine Kd.R_append (Kd.int .i64) (w0 := w) w.heap.size rfl (.tmp 20) (.tmp 23) 39 3 (.int .i64 0) 8 rfl Try.underlying39 info3 rfl (by decide) (by omega) u5 x5_1 ((rd_T51 t271 x12_1).f1) [.int .i64 ((rd_T51 t271 x12_1).f1)] (fun _ => True) (fun _ => False) rfl (by first | (go_simp; done) | (go_simp; rfl)) ?aP (fun _ hk => hk.elim) ?aF ?aO ?aB ?aS ?aL ?_; (case aP => exact rfl); (case aB => exact bl_); (case aF => exact (fun _ _ => trivial)); (case aO => exact (by (with_reducible repeat (first | apply Kd.R_alloc | apply Kd.R_drewN | apply Kd.R_drew)); exact Kd.R_mono (Kd.R_far (p := ⟨gb275, 2, none⟩) (Kd.R_far (p := ⟨gb275, 1, none⟩) (Kd.R_far (p := ⟨gb275, 0, none⟩) (Kd.R_types HO_5.out BK275.out (by decide)) (fun _ hk => hk.2) (.int .i64 ((rd_T51 t271 x12_1).f0.f0))) (fun _ hk => hk.2) (.int .i64 ((rd_T51 t271 x12_1).f0.f1))) (fun _ hk => hk.2) (.int .i64 ((rd_T51 t271 x12_1).f1))) (fun _ hk => trivial))); (case aS => exact bls_); (case aL => have := LMc13.out; omega); intro v277 w18 ho hb hg hat; rw [← Ny276.out] at ho; replace HO_10 := Aside0.mk (Kd.R_over' (by (with_reducible repeat (first | apply Kd.R_alloc | apply Kd.R_drewN | apply Kd.R_drew)); exact (Kd.R_mono (Kd.R_far (p := ⟨gb275, 2, none⟩) (Kd.R_far (p := ⟨gb275, 1, none⟩) (Kd.R_far (p := ⟨gb275, 0, none⟩) (Kd.R_mono HO_10.out (fun k_ hk => (⟨hk, hk.2⟩ : _ ∧ k_ ≠ gb275))) (fun _ hk => hk.2) (.int .i64 ((rd_T51 t271 x12_1).f0.f0))) (fun _ hk => hk.2) (.int .i64 ((rd_T51 t271 x12_1).f0.f1))) (fun _ hk => hk.2) (.int .i64 ((rd_T51 t271 x12_1).f1))) (fun _ h_ => h_.1))) (Kd.R_typed (by (with_reducible repeat (first | apply Kd.R_alloc | apply Kd.R_drewN | apply Kd.R_drew)); exact (Kd.R_mono (Kd.R_far (p := ⟨gb275, 2, none⟩) (Kd.R_far (p := ⟨gb275, 1, none⟩) (Kd.R_far (p := ⟨gb275, 0, none⟩) (Kd.R_types HO_5.out BK275.out (by decide)) (fun _ hk => hk.2) (.int .i64 ((rd_T51 t271 x12_1).f0.f0))) (fun _ hk => hk.2) (.int .i64 ((rd_T51 t271 x12_1).f0.f1))) (fun _ hk => hk.2) (.int .i64 ((rd_T51 t271 x12_1).f1))) (fun _ h_ => h_.1)))) (by decide) hg); replace BK267 := Aside0.mk (blk_grown (g := gb267) (o := .cells #[.int .i64 a1_0, .int .i64 a1_1] 49 (0, 0)) (bk_ BK267) hg (Kd.R_ne HO_5.out BK267.out (by decide))); replace BK275 := Aside0.mk (blk_grown (g := gb275) (o := .cells #[.int .i64 ((rd_T51 t271 x12_1).f0.f0), .int .i64 ((rd_T51 t271 x12_1).f0.f1), .int .i64 ((rd_T51 t271 x12_1).f1)] 51 (0, 0)) (bk_ BK275) hg (Kd.R_ne HO_5.out BK275.out (by decide))); replace HB := Aside0.mk (hb); have HO278 := Aside0.mk (ho); clear HO_5; clear ho hb hg hat))
     go_roundg k1
     case measure => have := HK1.out; omega
     case rel => exact ⟨(y276), (wrap64 (x12_1 + 1)), rf_, H', ⟨by have := HK1.out; omega⟩, ⟨by (with_reducible repeat (first | apply Kd.R_alloc | apply Kd.R_drewN | apply Kd.R_drew)); exact HO278.out⟩, ⟨by (with_reducible repeat (first | apply Kd.R_alloc | apply Kd.R_drewN | apply Kd.R_drew)); exact Kd.R_mono HO_10.out (fun _ hk => trivial)⟩, ⟨bk_ BK267⟩, ⟨bl_⟩⟩
    ·rw [if_neg c12] at H
     have c12b0 : (((rd_T51 t271 x12_1).f0.f0) == a1_0 && (((rd_T51 t271 x12_1).f0.f1) == a1_1)) = false := by simpa using c12
     (try (have c12b1 : decide (((rd_T51 t271 x12_1).f0.f0) = a1_0 && (((rd_T51 t271 x12_1).f0.f1) == a1_1)) = false := by simpa using c12))
     (try (have c12b2 : (((rd_T51 t271 x12_1).f0.f0) == a1_0 && (((rd_T51 t271 x12_1).f0.f1) == a1_1)) = false := by simpa using c12))
     (try (have c12b3 : ¬ (((rd_T51 t271 x12_1).f0.f0) = a1_0 && (((rd_T51 t271 x12_1).f0.f1) == a1_1)) := by simpa using c12))
     clear c12
     have H' := Aside0.mk H
     clear H
     have p274 : 0 ≤ (x12_1 : Int) := od_
     have q274 : x12_1 < (t271.length : Int) := od_
     obtain ⟨ad274, e274, hx274_0, hx274_1, hx274_2⟩ := at_T51 (Kd.R_reads' HO_10.out).2.2 x12_1 p274 q274
     cases e274
     replace p274 := eq_true p274
     replace q274 := eq_true q274
     go_wp2_with (first | ((with_reducible refine gate_dst (N := 7) rfl ?_); refine box_event ?hg (N := 7) ?hd (cs := #[.int .i64 0, .int .i64 0, .int .i64 0]) (t := 51) ?hr ?_; (case hd => rfl); (case hg => rfl); (case hr => first | (go_simp; done) | (go_simp; rfl)); intro gb275 hg w19 hbox hb; replace HO_5 := hob_ HO_5 hb; replace HO_10 := Aside0.mk (Kd.R_below (Kd.R_elderB (by (with_reducible repeat (first | apply Kd.R_alloc | apply Kd.R_drewN | apply Kd.R_drew)); exact HO_10.out) gb275 (Nat.le_of_eq hg.symm)) hb); have BK275 := Aside0.mk (hbox); have GW275 := gs_ hg; have GE275 := gs_ hg; replace HB := hbs_ hb; have NB267_275 := nl_ hg BK267; have NB275_267 := nr_ hg BK267; replace BK267 := bkb_ BK267 hb; clear hb hbox hg; have hnb20 := NB275_267.out; have hnc20 := NB267_275.out; have hcz21 := blk_cell BK275.out; have hfz21 := blk_frozen BK275.out; have hcz22 := blk_cell BK267.out; have hfz22 := blk_frozen BK267.out))
     go_roundg k1
     case measure => have := HK1.out; omega
     case rel => exact ⟨(x5_1), (wrap64 (x12_1 + 1)), rf_, H', ⟨by have := HK1.out; omega⟩, ⟨by (with_reducible repeat (first | apply Kd.R_alloc | apply Kd.R_drewN | apply Kd.R_drew)); exact Kd.R_mono (Kd.R_far (p := ⟨gb275, 2, none⟩) (Kd.R_far (p := ⟨gb275, 1, none⟩) (Kd.R_far (p := ⟨gb275, 0, none⟩) (Kd.R_types HO_5.out BK275.out (by decide)) (fun _ hk => hk.2) (.int .i64 ((rd_T51 t271 x12_1).f0.f0))) (fun _ hk => hk.2) (.int .i64 ((rd_T51 t271 x12_1).f0.f1))) (fun _ hk => hk.2) (.int .i64 ((rd_T51 t271 x12_1).f1))) (fun _ hk => trivial)⟩, ⟨by (with_reducible repeat (first | apply Kd.R_alloc | apply Kd.R_drewN | apply Kd.R_drew)); exact Kd.R_mono (Kd.R_far (p := ⟨gb275, 2, none⟩) (Kd.R_far (p := ⟨gb275, 1, none⟩) (Kd.R_far (p := ⟨gb275, 0, none⟩) (Kd.R_mono HO_10.out (fun k_ hk => (⟨hk, hk.2⟩ : _ ∧ k_ ≠ gb275))) (fun _ hk => hk.2) (.int .i64 ((rd_T51 t271 x12_1).f0.f0))) (fun _ hk => hk.2) (.int .i64 ((rd_T51 t271 x12_1).f0.f1))) (fun _ hk => hk.2) (.int .i64 ((rd_T51 t271 x12_1).f1))) (fun _ hk => trivial)⟩, ⟨bk_ BK267⟩, ⟨bl_⟩⟩
   ·rw [if_neg c9] at H
    have c9b0 : decide (x12_1 < (t271.length : Int)) = false := decide_eq_false c9
    clear c9
    obtain ⟨t279, A23, H⟩ := bindE_ H
    obtain rfl := Option.some.inj H
    obtain ⟨Ao24, co24, eo24⟩ := Kd.R_slice HO_5.out
    subst eo24
    go_wp2_with (first | ((with_reducible refine gate_callee (f := 97) rfl ?_); refine goesC_ (some 27) Try.func97 #[.slice Ao24 x5_1.length co24] ?_; (with_reducible refine (slices_Sort_int_int.calls (fun k_ => some k_ = (.slice Ao24 x5_1.length co24 : Value).ownBlock) (.slice Ao24 x5_1.length co24) x5_1 t279 w _ ?side1 ?side2 A23.out).mono ?_); (case side1 => repeat (first | (with_reducible first | exact HB.out | apply below_alloc | apply pw_below_drewN | apply below_drew1 | refine below_set ?_ GE267.out) | exact HB.out)); (case side2 => exact Kd.R_tight rfl HO_5.out); rintro e w25 ⟨rfl, hy0, hb, hkp⟩; refine ⟨_, rfl, ?_⟩; replace HO_10 := Aside0.mk (Kd.R_mono (ok' := fun k_ => True) (Kd.R_keptB ((Kd.R_apart' HO_10.out (Kd.R_typed HO_5.out) (by decide))) hkp (fun k_ hk_ hs_ => (hk_.2) hs_)) (fun k_ hk_ => trivial)); replace BK267 := Aside0.mk (blk_kept (bk_ BK267) hkp (fun hs_ => (fun e_ => (Kd.R_ne HO_5.out BK267.out (by decide)) e_) hs_)); replace HO_5 := Aside0.mk (Kd.R_reok rfl hy0 (fun k_ e_ => HO_5.out.1 k_ e_)); replace HB := Aside0.mk (hb); (try clear hb); (try clear hkp); (try clear hy0)))
    go_ret
    exact ⟨_, eq_, by (with_reducible repeat (first | apply Kd.R_alloc | apply Kd.R_drewN | apply Kd.R_drew)); exact HO_5.out, bl_⟩
def impl_leads.l0 : Nat → List (S49) → List Int → Int → Int → Int → Int → Int → Int → Int → Int → Int → Int → Int → Int → Option ((List (S49)))
 | 0, _, _, _, _, _, _, _, _, _, _, _, _, _, _ => none
 | k + 1, x5, x23, x24, x25, x281000, x281001, x281002, x281003, x281004, x281005, x281006, x281007, x281008, x281009 => if x25 < x24 then (if 0 ≤ x25 then (if x25 < (x23.length : Int) then (if x5.length < 8796093022208 then (impl_leads.l0 k (x5 ++ [(⟨rd x23 x25, x281007⟩ : S49)]) x23 x24 (wrap64 (x25 + 1)) x281000 x281001 x281002 x281003 x281004 x281005 x281006 x281007 x281008 x281009) else (none)) else (none)) else (none)) else (some x5)
def impl_leads.f (k : Nat) (l0 : List (S56)) (a1_0 : Int) (a1_1 : Int) (a1_2 : Int) (a1_3 : Int) (a1_4 : Int) (a1_5 : Int) (a1_6 : Int) (a1_7 : Int) (a1_8 : Int) (a1_9 : Int) : Option ((List (S49))) := if a1_0 = 2 then (some (([(⟨a1_4, a1_5⟩ : S49)] : List (S49)))) else (if a1_0 = 3 then ((impl_MembersOf.f k l0 a1_4 a1_5).bind fun t287 => (impl_leads.l0 k (([(⟨a1_4, a1_5⟩ : S49)] : List (S49))) t287 (t287.length : Int) 0 a1_0 a1_1 a1_2 a1_3 a1_4 a1_5 a1_6 a1_7 a1_8 a1_9)) else (if a1_0 = 4 then (some (([(⟨a1_4, a1_5⟩ : S49), (⟨a1_6, a1_7⟩ : S49)] : List (S49)))) else (some ([] : List (S49)))))
set_option maxHeartbeats 8000000 in
set_option maxRecDepth 100000 in
theorem impl_leads.calls (k : Nat) (A0 : Option Addr) (c0 : Nat) (l0 : List (S56)) (a1_0 : Int) (a1_1 : Int) (a1_2 : Int) (a1_3 : Int) (a1_4 : Int) (a1_5 : Int) (a1_6 : Int) (a1_7 : Int) (a1_8 : Int) (a1_9 : Int) (r : List (S49)) (w : World) (hr0 : Kd.C k56 w A0 l0.length l0) (hc0 : l0.length ≤ c0) (h : impl_leads.f k l0 a1_0 a1_1 a1_2 a1_3 a1_4 a1_5 a1_6 a1_7 a1_8 a1_9 = some r) :
  Calls Try.prog 135 #[.slice A0 l0.length c0, .agg #[.int .i64 a1_0, .int .i64 a1_1, .int .i64 a1_2, .int .i64 a1_3, .int .i64 a1_4, .int .i64 a1_5, .int .i64 a1_6, .int .i64 a1_7, .int .i64 a1_8, .int .i64 a1_9]] w fun e w' => ∃ v0_ : Value, e = .returned (v0_) ∧ Kd.R k49 49 w' w.heap.size (fun _ => True) v0_ r ∧ Below w.heap.size w w' := by
 have hu56 := Try.underlying56
 have hu49 := Try.underlying49
 have HR0 := Aside0.mk hr0
 have HC0 := Aside0.mk hc0
 clear hr0 hc0
 have HB := Aside0.mk (Below.refl w.heap.size w)
 have H : (if a1_0 = 2 then (some (([(⟨a1_4, a1_5⟩ : S49)] : List (S49)))) else (if a1_0 = 3 then ((impl_MembersOf.f k l0 a1_4 a1_5).bind fun t287 => (impl_leads.l0 k (([(⟨a1_4, a1_5⟩ : S49)] : List (S49))) t287 (t287.length : Int) 0 a1_0 a1_1 a1_2 a1_3 a1_4 a1_5 a1_6 a1_7 a1_8 a1_9)) else (if a1_0 = 4 then (some (([(⟨a1_4, a1_5⟩ : S49), (⟨a1_6, a1_7⟩ : S49)] : List (S49)))) else (some ([] : List (S49)))))) = some r := h
 clear h
 by_cases c3 : a1_0 = 2
 ·rw [if_pos c3] at H
  have c3b0 : (a1_0 == 2) = true := beq_iff_eq.mpr c3
  have c3b1 : (a1_0 != 2) = false := bne_eq_false_iff_eq.mpr c3
  clear c3
  obtain ⟨y281, hy281⟩ : ∃ y_ : List (S49), y_ = (([(⟨a1_4, a1_5⟩ : S49)] : List (S49))) := ⟨_, rfl⟩
  replace H : (some y281) = some r := by first | (rw [hy281]; with_reducible exact H) | (have H2_ := (Option.bind_some _ _).symm.trans H; rw [hy281]; with_reducible exact H2_) | (have H2_ := (Option.bind_some _ _).symm.trans H; with_reducible exact H2_) | with_reducible exact H | (rw [hy281]; exact H) | exact H
  have Ny281 := Aside0.mk hy281
  clear hy281
  obtain rfl := Option.some.inj H
  go_enter Try.func135, Try.ntmps135
  go_wp2_with (first | ((with_reducible refine gate_dst (N := 3) rfl ?_); refine box_event ?hg (N := 3) ?hd (cs := #[.int .i64 a1_0, .int .i64 a1_1, .int .i64 a1_2, .int .i64 a1_3, .int .i64 a1_4, .int .i64 a1_5, .int .i64 a1_6, .int .i64 a1_7, .int .i64 a1_8, .int .i64 a1_9]) (t := 56) ?hr ?_; (case hd => rfl); (case hg => rfl); (case hr => first | (go_simp; done) | (go_simp; rfl)); intro gb280 hg w4 hbox hb; have BK280 := Aside0.mk (hbox); have GW280 := gs_ hg; have GE280 := gs_ hg; replace HB := hbs_ hb; clear hb hbox hg; have hcz5 := blk_cell BK280.out; have hfz5 := blk_frozen BK280.out) | ((with_reducible refine gate_dst (N := 14) rfl ?_); refine Kd.R_lit k49 _ 49 ?hg (N := 14) ?hd (xs := ([(⟨a1_4, a1_5⟩ : S49)] : List (S49))) (inner := [.int .i64 a1_4, .int .i64 a1_5]) (ok := fun _ => True) (okp := fun _ => True) ?hr ?hp (fun _ hk => hk) trivial (Below.refl _ _) (Nat.le_refl _) (by simp) ?_; (case hd => rfl); (case hg => rfl); (case hr => first | (go_simp; done) | (go_simp; rfl)); (case hp => exact (Reps.c2 (show Kd.M k49 _ _ _ (⟨a1_4, a1_5⟩ : S49) [.int .i64 a1_4, .int .i64 a1_5] from (k49_mkM _ _ _ (⟨a1_4, a1_5⟩ : S49) )) (Reps.none _ _))); intro v282 w6 ho7 hb hg_ hnew_; clear hg_ hnew_; (first | rw [← Ny281.out] at ho7 | (simp only [Int.reduceToNat] at ho7; rw [← Ny281.out] at ho7)); have HO283 := Aside0.mk (Kd.R_lower ho7 bls_); replace BK280 := bkb_ BK280 hb; replace HB := hbs_ hb; clear hb ho7))
  go_ret
  exact ⟨_, eq_, by (with_reducible repeat (first | apply Kd.R_alloc | apply Kd.R_drewN | apply Kd.R_drew)); exact HO283.out, bl_⟩
 ·rw [if_neg c3] at H
  have c3b0 : (a1_0 == 2) = false := beq_eq_false_iff_ne.mpr c3
  have c3b1 : (a1_0 != 2) = true := bne_iff_ne.mpr c3
  by_cases c8 : a1_0 = 3
  ·rw [if_pos c8] at H
   have c8b0 : (a1_0 == 3) = true := beq_iff_eq.mpr c8
   have c8b1 : (a1_0 != 3) = false := bne_eq_false_iff_eq.mpr c8
   clear c8
   obtain ⟨y284, hy284⟩ : ∃ y_ : List (S49), y_ = (([(⟨a1_4, a1_5⟩ : S49)] : List (S49))) := ⟨_, rfl⟩
   replace H : ((impl_MembersOf.f k l0 a1_4 a1_5).bind fun t287 => (impl_leads.l0 k y284 t287 (t287.length : Int) 0 a1_0 a1_1 a1_2 a1_3 a1_4 a1_5 a1_6 a1_7 a1_8 a1_9)) = some r := by first | (rw [hy284]; with_reducible exact H) | (have H2_ := (Option.bind_some _ _).symm.trans H; rw [hy284]; with_reducible exact H2_) | (have H2_ := (Option.bind_some _ _).symm.trans H; with_reducible exact H2_) | with_reducible exact H | (rw [hy284]; exact H) | exact H
   have Ny284 := Aside0.mk hy284
   clear hy284
   obtain ⟨t287, A9, H⟩ := bindE_ H
   have H' := Aside0.mk H
   clear H
   go_enter Try.func135, Try.ntmps135
   go_wp2_with (first | ((with_reducible refine gate_dst (N := 3) rfl ?_); refine box_event ?hg (N := 3) ?hd (cs := #[.int .i64 a1_0, .int .i64 a1_1, .int .i64 a1_2, .int .i64 a1_3, .int .i64 a1_4, .int .i64 a1_5, .int .i64 a1_6, .int .i64 a1_7, .int .i64 a1_8, .int .i64 a1_9]) (t := 56) ?hr ?_; (case hd => rfl); (case hg => rfl); (case hr => first | (go_simp; done) | (go_simp; rfl)); intro gb280 hg w10 hbox hb; have BK280 := Aside0.mk (hbox); have GW280 := gs_ hg; have GE280 := gs_ hg; replace HB := hbs_ hb; clear hb hbox hg; have hcz11 := blk_cell BK280.out; have hfz11 := blk_frozen BK280.out) | ((with_reducible refine gate_dst (N := 19) rfl ?_); refine Kd.R_lit k49 _ 49 ?hg (N := 19) ?hd (xs := ([(⟨a1_4, a1_5⟩ : S49)] : List (S49))) (inner := [.int .i64 a1_4, .int .i64 a1_5]) (ok := fun _ => True) (okp := fun _ => True) ?hr ?hp (fun _ hk => hk) trivial (Below.refl _ _) (Nat.le_refl _) (by simp) ?_; (case hd => rfl); (case hg => rfl); (case hr => first | (go_simp; done) | (go_simp; rfl)); (case hp => exact (Reps.c2 (show Kd.M k49 _ _ _ (⟨a1_4, a1_5⟩ : S49) [.int .i64 a1_4, .int .i64 a1_5] from (k49_mkM _ _ _ (⟨a1_4, a1_5⟩ : S49) )) (Reps.none _ _))); intro v285 w12 ho13 hb hg_ hnew_; clear hg_ hnew_; (first | rw [← Ny284.out] at ho13 | (simp only [Int.reduceToNat] at ho13; rw [← Ny284.out] at ho13)); have HO286 := Aside0.mk (Kd.R_lower ho13 bls_); replace BK280 := bkb_ BK280 hb; replace HB := hbs_ hb; clear hb ho13; have hcz14 := blk_cell BK280.out; have hfz14 := blk_frozen BK280.out) | ((with_reducible refine gate_callee (f := 183) rfl ?_); refine goesC_ (some 23) Try.func183 #[.slice A0 l0.length c0, .agg #[.int .i64 a1_4, .int .i64 a1_5]] ?_; (with_reducible refine (impl_MembersOf.calls k _ _ l0 a1_4 a1_5 t287 _ ?side1 ?side2 A9.out).mono ?_); (case side1 => repeat (first | exact (Kd.C_below HR0.out HB.out) | (with_reducible refine Kd.C_alloc ?_ _) | (with_reducible refine Kd.C_drewN ?_ _) | (with_reducible refine Kd.C_drew ?_))); (case side2 => exact HC0.out); rintro e w15 ⟨v288, rfl, ho0, hb⟩; refine ⟨_, rfl, ?_⟩; replace HO286 := hob_ HO286 hb; have HO289 := Aside0.mk (Kd.R_lower ho0 bls_); replace BK280 := bkb_ BK280 hb; replace HB := hbs_ hb; (try clear hb); (try clear hb2); (try clear hk); (try clear hi); (try clear ho0); obtain ⟨Ao16, co16, eo16⟩ := Kd.R_slice HO289.out; subst eo16))
   go_loopg [5, 25] k (fun kq v5 v25 w' => ∃ (x5_1 : List (S49)) (x25_1 : Int), v25 = .int .i64 x25_1 ∧ Aside0 (impl_leads.l0 kq x5_1 t287 (t287.length : Int) x25_1 a1_0 a1_1 a1_2 a1_3 a1_4 a1_5 a1_6 a1_7 a1_8 a1_9 = some r) ∧ Aside0 (kq ≤ k) ∧ Aside0 (Kd.R k49 49 w' w.heap.size (fun _ => True) v5 x5_1) ∧ Aside0 (Kd.R (Kd.int .i64) 3 w' w.heap.size (fun _ => True) (.slice Ao16 t287.length co16) t287) ∧ Aside0 (w'.heap[gb280]? = some (.cells #[.int .i64 a1_0, .int .i64 a1_1, .int .i64 a1_2, .int .i64 a1_3, .int .i64 a1_4, .int .i64 a1_5, .int .i64 a1_6, .int .i64 a1_7, .int .i64 a1_8, .int .i64 a1_9] 56 (0, 0))) ∧ Aside0 (Below w.heap.size w w'))
   case atStart => exact ⟨(y284), (0), rf_, H', ⟨Nat.le_refl _⟩, ⟨by (with_reducible repeat (first | apply Kd.R_alloc | apply Kd.R_drewN | apply Kd.R_drew)); exact HO286.out⟩, ⟨by (with_reducible repeat (first | apply Kd.R_alloc | apply Kd.R_drewN | apply Kd.R_drew)); exact HO289.out⟩, ⟨bk_ BK280⟩, ⟨bl_⟩⟩
   case round =>
    clear H'
    try clear c1
    try clear c2
    try clear p2
    try clear c3
    try clear c3b0
    try clear c3b1
    try clear c8
    try clear c8b0
    try clear c8b1
    try clear c13
    try clear hcz11
    try clear hcz14
    try clear hcz5
    try clear hfz11
    try clear hfz14
    try clear hfz5
    obtain ⟨x5_1, x25_1, rfl, HA, HK1, HO_5, HO_23, BK280, HB⟩ := hrel
    cases gk with
    | zero => exact absurd HA.out (by simp [impl_leads.l0])
    | succ k1 =>
     have H := HA.out
     clear HA
     simp only [impl_leads.l0] at H
     by_cases c17 : x25_1 < (t287.length : Int)
     ·rw [if_pos c17] at H
      have c17b0 : decide (x25_1 < (t287.length : Int)) = true := decide_eq_true c17
      clear c17
      obtain ⟨c18b0, H⟩ := ifd_ H
      obtain ⟨c19b0, H⟩ := ifd_ H
      obtain ⟨c20, H⟩ := ifn_ H
      have LMc20 := Aside0.mk c20
      clear c20
      obtain ⟨y291, hy291⟩ : ∃ y_ : List (S49), y_ = (x5_1 ++ [(⟨rd t287 x25_1, a1_7⟩ : S49)]) := ⟨_, rfl⟩
      replace H : (impl_leads.l0 k1 y291 t287 (t287.length : Int) (wrap64 (x25_1 + 1)) a1_0 a1_1 a1_2 a1_3 a1_4 a1_5 a1_6 a1_7 a1_8 a1_9) = some r := by first | (rw [hy291]; with_reducible exact H) | (have H2_ := (Option.bind_some _ _).symm.trans H; rw [hy291]; with_reducible exact H2_) | (have H2_ := (Option.bind_some _ _).symm.trans H; with_reducible exact H2_) | with_reducible exact H | (rw [hy291]; exact H) | exact H
      have Ny291 := Aside0.mk hy291
      clear hy291
      have H' := Aside0.mk H
      clear H
      have p290 : 0 ≤ (x25_1 : Int) := od_
      have q290 : x25_1 < (t287.length : Int) := od_
      obtain ⟨ad290, e290, hx290_0⟩ := Kd.at_int (Kd.R_reads' HO_23.out).2.2 x25_1 p290 q290
      cases e290
      replace p290 := eq_true p290
      replace q290 := eq_true q290
      have hcz21 := blk_cell BK280.out
      have hfz21 := blk_frozen BK280.out
      go_wp2_with (first | ((with_reducible refine gate_builtin (b := .append) (xs := #[.tmp 29, .tmp 35]) rfl ?_); at_builtin; refine Kd.R_append k49 (w0 := w) w.heap.size rfl (.tmp 29) (.tmp 35) 69 49 (.agg #[(.int .i64 0), (.int .i64 0)]) 16 rfl Try.underlying69 info49 rfl (by decide) (by omega) u5 x5_1 (⟨rd t287 x25_1, a1_7⟩ : S49) [.int .i64 (rd t287 x25_1), .int .i64 a1_7] (fun _ => True) (fun _ => False) rfl rfl ?aP (fun _ hk => hk.elim) ?aF ?aO ?aB ?aS ?aL ?_; (case aP => exact k49_mkM _ _ _ (⟨rd t287 x25_1, a1_7⟩ : S49)); (case aB => exact bl_); (case aF => exact (fun _ _ => trivial)); (case aO => exact (by (with_reducible repeat (first | apply Kd.R_alloc | apply Kd.R_drewN | apply Kd.R_drew)); exact HO_5.out)); (case aS => exact bls_); (case aL => have := LMc20.out; omega); intro v292 w22 ho hb hg hat; rw [← Ny291.out] at ho; replace HO_23 := Aside0.mk (Kd.R_over' (by (with_reducible repeat (first | apply Kd.R_alloc | apply Kd.R_drewN | apply Kd.R_drew)); exact HO_23.out) (Kd.R_typed (by (with_reducible repeat (first | apply Kd.R_alloc | apply Kd.R_drewN | apply Kd.R_drew)); exact HO_5.out)) (by decide) hg); replace BK280 := Aside0.mk (blk_grown (g := gb280) (o := .cells #[.int .i64 a1_0, .int .i64 a1_1, .int .i64 a1_2, .int .i64 a1_3, .int .i64 a1_4, .int .i64 a1_5, .int .i64 a1_6, .int .i64 a1_7, .int .i64 a1_8, .int .i64 a1_9] 56 (0, 0)) (bk_ BK280) hg (Kd.R_ne HO_5.out BK280.out (by decide))); replace HB := Aside0.mk (hb); have HO293 := Aside0.mk (ho); clear HO_5; clear ho hb hg hat))
      go_roundg k1
      case measure => have := HK1.out; omega
      case rel => exact ⟨(y291), (wrap64 (x25_1 + 1)), rf_, H', ⟨by have := HK1.out; omega⟩, ⟨by (with_reducible repeat (first | apply Kd.R_alloc | apply Kd.R_drewN | apply Kd.R_drew)); exact HO293.out⟩, ⟨by (with_reducible repeat (first | apply Kd.R_alloc | apply Kd.R_drewN | apply Kd.R_drew)); exact HO_23.out⟩, ⟨bk_ BK280⟩, ⟨bl_⟩⟩
     ·rw [if_neg c17] at H
      have c17b0 : decide (x25_1 < (t287.length : Int)) = false := decide_eq_false c17
      clear c17
      obtain rfl := Option.some.inj H
      go_wp2
      go_ret
      exact ⟨_, eq_, by (with_reducible repeat (first | apply Kd.R_alloc | apply Kd.R_drewN | apply Kd.R_drew)); exact HO_5.out, bl_⟩
  ·rw [if_neg c8] at H
   have c8b0 : (a1_0 == 3) = false := beq_eq_false_iff_ne.mpr c8
   have c8b1 : (a1_0 != 3) = true := bne_iff_ne.mpr c8
   by_cases c23 : a1_0 = 4
   ·rw [if_pos c23] at H
    have c23b0 : (a1_0 == 4) = true := beq_iff_eq.mpr c23
    have c23b1 : (a1_0 != 4) = false := bne_eq_false_iff_eq.mpr c23
    clear c23
    obtain ⟨y294, hy294⟩ : ∃ y_ : List (S49), y_ = (([(⟨a1_4, a1_5⟩ : S49), (⟨a1_6, a1_7⟩ : S49)] : List (S49))) := ⟨_, rfl⟩
    replace H : (some y294) = some r := by first | (rw [hy294]; with_reducible exact H) | (have H2_ := (Option.bind_some _ _).symm.trans H; rw [hy294]; with_reducible exact H2_) | (have H2_ := (Option.bind_some _ _).symm.trans H; with_reducible exact H2_) | with_reducible exact H | (rw [hy294]; exact H) | exact H
    have Ny294 := Aside0.mk hy294
    clear hy294
    obtain rfl := Option.some.inj H
    go_enter Try.func135, Try.ntmps135
    go_wp2_with (first | ((with_reducible refine gate_dst (N := 3) rfl ?_); refine box_event ?hg (N := 3) ?hd (cs := #[.int .i64 a1_0, .int .i64 a1_1, .int .i64 a1_2, .int .i64 a1_3, .int .i64 a1_4, .int .i64 a1_5, .int .i64 a1_6, .int .i64 a1_7, .int .i64 a1_8, .int .i64 a1_9]) (t := 56) ?hr ?_; (case hd => rfl); (case hg => rfl); (case hr => first | (go_simp; done) | (go_simp; rfl)); intro gb280 hg w24 hbox hb; have BK280 := Aside0.mk (hbox); have GW280 := gs_ hg; have GE280 := gs_ hg; replace HB := hbs_ hb; clear hb hbox hg; have hcz25 := blk_cell BK280.out; have hfz25 := blk_frozen BK280.out) | ((with_reducible refine gate_dst (N := 45) rfl ?_); refine Kd.R_lit k49 _ 49 ?hg (N := 45) ?hd (xs := ([(⟨a1_4, a1_5⟩ : S49), (⟨a1_6, a1_7⟩ : S49)] : List (S49))) (inner := [.int .i64 a1_4, .int .i64 a1_5, .int .i64 a1_6, .int .i64 a1_7]) (ok := fun _ => True) (okp := fun _ => True) ?hr ?hp (fun _ hk => hk) trivial (Below.refl _ _) (Nat.le_refl _) (by simp) ?_; (case hd => rfl); (case hg => rfl); (case hr => first | (go_simp; done) | (go_simp; rfl)); (case hp => exact (Reps.c2 (show Kd.M k49 _ _ _ (⟨a1_4, a1_5⟩ : S49) [.int .i64 a1_4, .int .i64 a1_5] from (k49_mkM _ _ _ (⟨a1_4, a1_5⟩ : S49) )) (Reps.c2 (show Kd.M k49 _ _ _ (⟨a1_6, a1_7⟩ : S49) [.int .i64 a1_6, .int .i64 a1_7] from (k49_mkM _ _ _ (⟨a1_6, a1_7⟩ : S49) )) (Reps.none _ _)))); intro v295 w26 ho27 hb hg_ hnew_; clear hg_ hnew_; (first | rw [← Ny294.out] at ho27 | (simp only [Int.reduceToNat] at ho27; rw [← Ny294.out] at ho27)); have HO296 := Aside0.mk (Kd.R_lower ho27 bls_); replace BK280 := bkb_ BK280 hb; replace HB := hbs_ hb; clear hb ho27))
    go_ret
    exact ⟨_, eq_, by (with_reducible repeat (first | apply Kd.R_alloc | apply Kd.R_drewN | apply Kd.R_drew)); exact HO296.out, bl_⟩
   ·rw [if_neg c23] at H
    have c23b0 : (a1_0 == 4) = false := beq_eq_false_iff_ne.mpr c23
    have c23b1 : (a1_0 != 4) = true := bne_iff_ne.mpr c23
    obtain rfl := Option.some.inj H
    go_enter Try.func135, Try.ntmps135
    go_wp2_with (first | ((with_reducible refine gate_dst (N := 3) rfl ?_); refine box_event ?hg (N := 3) ?hd (cs := #[.int .i64 a1_0, .int .i64 a1_1, .int .i64 a1_2, .int .i64 a1_3, .int .i64 a1_4, .int .i64 a1_5, .int .i64 a1_6, .int .i64 a1_7, .int .i64 a1_8, .int .i64 a1_9]) (t := 56) ?hr ?_; (case hd => rfl); (case hg => rfl); (case hr => first | (go_simp; done) | (go_simp; rfl)); intro gb280 hg w28 hbox hb; have BK280 := Aside0.mk (hbox); have GW280 := gs_ hg; have GE280 := gs_ hg; replace HB := hbs_ hb; clear hb hbox hg; have hcz29 := blk_cell BK280.out; have hfz29 := blk_frozen BK280.out))
    go_ret
    exact ⟨_, eq_, by first | exact Kd.R_nil _ _ _ _ _ | exact Kd.N_nil _ _ _ _ _ | exact Kd.V_nil _ _ _ _ _ | exact Kd.Q_nil _ _ _ _ _ | exact Kd.S_nil _ _ _ _ _, bl_⟩
mutual
def impl_LeansOn.l0 : Nat → List (S56) → List (S49) → List (S56) → Int → Int → Int → Int → Option ((List (S49)))
 | 0, _, _, _, _, _, _, _ => none
 | k + 1, x0, x5, x11, x12, x13, x298000, x298001 => if x13 < x12 then (if 0 ≤ x13 then (if x13 < (x11.length : Int) then ((impl_CredOk.f k ((rd_T56 x11 x13).f0) ((rd_T56 x11 x13).f1.f0) ((rd_T56 x11 x13).f1.f1) ((rd_T56 x11 x13).f2) ((rd_T56 x11 x13).f3.f0) ((rd_T56 x11 x13).f3.f1) ((rd_T56 x11 x13).f4.f0) ((rd_T56 x11 x13).f4.f1) ((rd_T56 x11 x13).f5) ((rd_T56 x11 x13).f6)).bind fun t303 => (if t303 = true then (impl_LeansOn.j1 k x0 x5 x11 x12 x13 (!(((rd_T56 x11 x13).f1.f0) == x298000) || (!(((rd_T56 x11 x13).f1.f1) == x298001))) x298000 x298001 ((rd_T56 x11 x13).f0) ((rd_T56 x11 x13).f1.f0) ((rd_T56 x11 x13).f1.f1) ((rd_T56 x11 x13).f2) ((rd_T56 x11 x13).f3.f0) ((rd_T56 x11 x13).f3.f1) ((rd_T56 x11 x13).f4.f0) ((rd_T56 x11 x13).f4.f1) ((rd_T56 x11 x13).f5) ((rd_T56 x11 x13).f6)) else (impl_LeansOn.j1 k x0 x5 x11 x12 x13 true x298000 x298001 ((rd_T56 x11 x13).f0) ((rd_T56 x11 x13).f1.f0) ((rd_T56 x11 x13).f1.f1) ((rd_T56 x11 x13).f2) ((rd_T56 x11 x13).f3.f0) ((rd_T56 x11 x13).f3.f1) ((rd_T56 x11 x13).f4.f0) ((rd_T56 x11 x13).f4.f1) ((rd_T56 x11 x13).f5) ((rd_T56 x11 x13).f6)))) else (none)) else (none)) else (some x5)
def impl_LeansOn.j1 : Nat → List (S56) → List (S49) → List (S56) → Int → Int → Bool → Int → Int → Int → Int → Int → Int → Int → Int → Int → Int → Int → Int → Option ((List (S49)))
 | 0, _, _, _, _, _, _, _, _, _, _, _, _, _, _, _, _, _, _ => none
 | k + 1, x0, x5, x11, x12, x13, x25, x298000, x298001, x303000, x303001, x303002, x303003, x303004, x303005, x303006, x303007, x303008, x303009 => if x25 = true then (impl_LeansOn.l0 k x0 x5 x11 x12 (wrap64 (x13 + 1)) x298000 x298001) else ((impl_leads.f k x0 x303000 x303001 x303002 x303003 x303004 x303005 x303006 x303007 x303008 x303009).bind fun t304 => (impl_LeansOn.l1 k x0 x5 x11 x12 x13 t304 (t304.length : Int) 0 x298000 x298001))
def impl_LeansOn.l1 : Nat → List (S56) → List (S49) → List (S56) → Int → Int → List (S49) → Int → Int → Int → Int → Option ((List (S49)))
 | 0, _, _, _, _, _, _, _, _, _, _ => none
 | k + 1, x0, x5, x11, x12, x13, x28, x29, x30, x298000, x298001 => if x30 < x29 then (if 0 ≤ x30 then (if x30 < (x28.length : Int) then ((impl_Role_125.f k x5 ((rd_T49 x28 x30).f0) ((rd_T49 x28 x30).f1)).bind fun t309 => (if t309 = true then (impl_LeansOn.l1 k x0 x5 x11 x12 x13 x28 x29 (wrap64 (x30 + 1)) x298000 x298001) else (if x5.length < 8796093022208 then (impl_LeansOn.l1 k x0 (x5 ++ [(⟨(rd_T49 x28 x30).f0, (rd_T49 x28 x30).f1⟩ : S49)]) x11 x12 x13 x28 x29 (wrap64 (x30 + 1)) x298000 x298001) else (none)))) else (none)) else (none)) else (impl_LeansOn.l0 k x0 x5 x11 x12 (wrap64 (x13 + 1)) x298000 x298001)
end
def impl_LeansOn.f (k : Nat) (l0 : List (S56)) (a1_0 : Int) (a1_1 : Int) : Option ((List (S49))) := impl_LeansOn.l0 k l0 (([] : List (S49))) l0 (l0.length : Int) 0 a1_0 a1_1
set_option maxHeartbeats 8000000 in
set_option maxRecDepth 100000 in
theorem impl_LeansOn.calls (k : Nat) (A0 : Option Addr) (c0 : Nat) (l0 : List (S56)) (a1_0 : Int) (a1_1 : Int) (r : List (S49)) (w : World) (hr0 : Kd.C k56 w A0 l0.length l0) (hc0 : l0.length ≤ c0) (h : impl_LeansOn.f k l0 a1_0 a1_1 = some r) :
  Calls Try.prog 68 #[.slice A0 l0.length c0, .agg #[.int .i64 a1_0, .int .i64 a1_1]] w fun e w' => ∃ v0_ : Value, e = .returned (v0_) ∧ Kd.R k49 49 w' w.heap.size (fun _ => True) v0_ r ∧ Below w.heap.size w w' := by
 have hu49 := Try.underlying49
 have hu56 := Try.underlying56
 have HR0 := Aside0.mk hr0
 have HC0 := Aside0.mk hc0
 clear hr0 hc0
 have HB := Aside0.mk (Below.refl w.heap.size w)
 have H : (impl_LeansOn.l0 k l0 (([] : List (S49))) l0 (l0.length : Int) 0 a1_0 a1_1) = some r := h
 clear h
 obtain ⟨y298, hy298⟩ : ∃ y_ : List (S49), y_ = (([] : List (S49))) := ⟨_, rfl⟩
 replace H : (impl_LeansOn.l0 k l0 y298 l0 (l0.length : Int) 0 a1_0 a1_1) = some r := by first | (rw [hy298]; with_reducible exact H) | (have H2_ := (Option.bind_some _ _).symm.trans H; rw [hy298]; with_reducible exact H2_) | (have H2_ := (Option.bind_some _ _).symm.trans H; with_reducible exact H2_) | with_reducible exact H | (rw [hy298]; exact H) | exact H
 have Ny298 := Aside0.mk hy298
 clear hy298
 have H' := Aside0.mk H
 clear H
 go_enter Try.func68, Try.ntmps68
 go_wp2_with (first | ((with_reducible refine gate_dst (N := 3) rfl ?_); refine box_event ?hg (N := 3) ?hd (cs := #[.int .i64 a1_0, .int .i64 a1_1]) (t := 49) ?hr ?_; (case hd => rfl); (case hg => rfl); (case hr => first | (go_simp; done) | (go_simp; rfl)); intro gb297 hg w3 hbox hb; have BK297 := Aside0.mk (hbox); have GW297 := gs_ hg; have GE297 := gs_ hg; replace HB := hbs_ hb; clear hb hbox hg) | ((with_reducible refine gate_dst (N := 10) rfl ?_); refine Kd.R_lit k49 _ 49 ?hg (N := 10) ?hd (xs := ([] : List (S49))) (inner := []) (ok := fun _ => True) (okp := fun _ => True) ?hr ?hp (fun _ hk => hk) trivial (Below.refl _ _) (Nat.le_refl _) (by simp) ?_; (case hd => rfl); (case hg => rfl); (case hr => first | (go_simp; done) | (go_simp; rfl)); (case hp => exact (Reps.none _ _)); intro v299 w4 ho5 hb hg_ hnew_; clear hg_ hnew_; (first | rw [← Ny298.out] at ho5 | (simp only [Int.reduceToNat] at ho5; rw [← Ny298.out] at ho5)); have HO300 := Aside0.mk (Kd.R_lower (Kd.R_newB ho5 (g := gb297) (o := .cells #[.int .i64 a1_0, .int .i64 a1_1] 49 (0, 0)) (bk_ BK297)) bls_); replace BK297 := bkb_ BK297 hb; replace HB := hbs_ hb; clear hb ho5))
 go_loopg [5, 13] k (fun kq v5 v13 w' => ∃ (x5_1 : List (S49)) (x13_1 : Int), v13 = .int .i64 x13_1 ∧ Aside0 (impl_LeansOn.l0 kq l0 x5_1 l0 (l0.length : Int) x13_1 a1_0 a1_1 = some r) ∧ Aside0 (kq ≤ k) ∧ Aside0 (Kd.R k49 49 w' w.heap.size (fun k_ => k_ ≠ gb297) v5 x5_1) ∧ Aside0 (w'.heap[gb297]? = some (.cells #[.int .i64 a1_0, .int .i64 a1_1] 49 (0, 0))) ∧ Aside0 (Below w.heap.size w w'))
 case atStart => exact ⟨(y298), (0), rf_, H', ⟨Nat.le_refl _⟩, ⟨by (with_reducible repeat (first | apply Kd.R_alloc | apply Kd.R_drewN | apply Kd.R_drew)); exact Kd.R_mono HO300.out (fun _ hk => hk.2)⟩, ⟨bk_ BK297⟩, ⟨bl_⟩⟩
 case round =>
  clear H'
  try clear p2
  obtain ⟨x5_1, x13_1, rfl, HA, HK1, HO_5, BK297, HB⟩ := hrel
  cases gk with
  | zero => exact absurd HA.out (by simp [impl_LeansOn.l0])
  | succ k1 =>
   have H := HA.out
   clear HA
   simp only [impl_LeansOn.l0] at H
   by_cases c6 : x13_1 < (l0.length : Int)
   ·rw [if_pos c6] at H
    have c6b0 : decide (x13_1 < (l0.length : Int)) = true := decide_eq_true c6
    clear c6
    obtain ⟨c7b0, H⟩ := ifd_ H
    obtain ⟨c8b0, H⟩ := ifd_ H
    have HC9 := Aside0.mk H
    clear H
    have p301 : 0 ≤ (x13_1 : Int) := od_
    have q301 : x13_1 < (l0.length : Int) := od_
    obtain ⟨ad301, e301, hx301_0, hx301_1, hx301_2, hx301_3, hx301_4, hx301_5, hx301_6, hx301_7, hx301_8, hx301_9⟩ := at_T56 (Kd.C_below HR0.out HB.out) x13_1 p301 q301
    cases e301
    replace p301 := eq_true p301
    replace q301 := eq_true q301
    go_upto_region 5 with (first | ((with_reducible refine gate_dst (N := 7) rfl ?_); refine box_event ?hg (N := 7) ?hd (cs := #[.int .i64 0, .int .i64 0, .int .i64 0, .int .i64 0, .int .i64 0, .int .i64 0, .int .i64 0, .int .i64 0, .int .i64 0, .int .i64 0]) (t := 56) ?hr ?_; (case hd => rfl); (case hg => rfl); (case hr => first | (go_simp; done) | (go_simp; rfl)); intro gb302 hg w10 hbox hb; replace HO_5 := hob_ HO_5 hb; have BK302 := Aside0.mk (hbox); have GW302 := gs_ hg; have GE302 := gs_ hg; replace HB := hbs_ hb; have NB297_302 := nl_ hg BK297; have NB302_297 := nr_ hg BK297; replace BK297 := bkb_ BK297 hb; clear hb hbox hg; have hnb11 := NB302_297.out; have hnc11 := NB297_302.out; have hcz12 := blk_cell BK302.out; have hfz12 := blk_frozen BK302.out))
    (try simp only [Act.put, List.setIfInBounds_toArray, List.set_cons_zero, List.set_cons_succ])
    go_cut [25] (fun v25 wc => ∃ (kq : Nat) (x25_8 : Bool), v25 = .bool x25_8 ∧ Aside0 (impl_LeansOn.j1 kq l0 x5_1 l0 (l0.length : Int) x13_1 x25_8 a1_0 a1_1 ((rd_T56 l0 x13_1).f0) ((rd_T56 l0 x13_1).f1.f0) ((rd_T56 l0 x13_1).f1.f1) ((rd_T56 l0 x13_1).f2) ((rd_T56 l0 x13_1).f3.f0) ((rd_T56 l0 x13_1).f3.f1) ((rd_T56 l0 x13_1).f4.f0) ((rd_T56 l0 x13_1).f4.f1) ((rd_T56 l0 x13_1).f5) ((rd_T56 l0 x13_1).f6) = some r) ∧ Aside0 (kq ≤ k1) ∧ Aside0 (Kd.R k49 49 wc w.heap.size (fun k_ => k_ ≠ gb297) u5 x5_1) ∧ Aside0 (wc.heap[gb297]? = some (.cells #[.int .i64 a1_0, .int .i64 a1_1] 49 (0, 0))) ∧ Aside0 (wc.heap[gb302]? = some (.cells #[.int .i64 ((rd_T56 l0 x13_1).f0), .int .i64 ((rd_T56 l0 x13_1).f1.f0), .int .i64 ((rd_T56 l0 x13_1).f1.f1), .int .i64 ((rd_T56 l0 x13_1).f2), .int .i64 ((rd_T56 l0 x13_1).f3.f0), .int .i64 ((rd_T56 l0 x13_1).f3.f1), .int .i64 ((rd_T56 l0 x13_1).f4.f0), .int .i64 ((rd_T56 l0 x13_1).f4.f1), .int .i64 ((rd_T56 l0 x13_1).f5), .int .i64 ((rd_T56 l0 x13_1).f6)] 56 (0, 0))) ∧ Aside0 (Below w.heap.size w wc))
    case first =>
     have H := HC9.out
     clear HC9
     obtain ⟨t303, A13, H⟩ := bindE_ H
     by_cases c14 : t303 = true
     ·subst c14
      replace H := ite_t_ H
      have H' := Aside0.mk H
      clear H
      have hnb15 := NB302_297.out
      have hnc15 := NB297_302.out
      have hcz16 := blk_cell BK302.out
      have hfz16 := blk_frozen BK302.out
      go_wp2_with (first | ((with_reducible refine gate_callee (f := 96) rfl ?_); refine goesC_ (some 18) Try.func96 #[.agg #[.int .i64 ((rd_T56 l0 x13_1).f0), .int .i64 ((rd_T56 l0 x13_1).f1.f0), .int .i64 ((rd_T56 l0 x13_1).f1.f1), .int .i64 ((rd_T56 l0 x13_1).f2), .int .i64 ((rd_T56 l0 x13_1).f3.f0), .int .i64 ((rd_T56 l0 x13_1).f3.f1), .int .i64 ((rd_T56 l0 x13_1).f4.f0), .int .i64 ((rd_T56 l0 x13_1).f4.f1), .int .i64 ((rd_T56 l0 x13_1).f5), .int .i64 ((rd_T56 l0 x13_1).f6)]] ?_; (with_reducible refine (impl_CredOk.calls k1 ((rd_T56 l0 x13_1).f0) ((rd_T56 l0 x13_1).f1.f0) ((rd_T56 l0 x13_1).f1.f1) ((rd_T56 l0 x13_1).f2) ((rd_T56 l0 x13_1).f3.f0) ((rd_T56 l0 x13_1).f3.f1) ((rd_T56 l0 x13_1).f4.f0) ((rd_T56 l0 x13_1).f4.f1) ((rd_T56 l0 x13_1).f5) ((rd_T56 l0 x13_1).f6) true _ A13.out).mono ?_); rintro e w17 ⟨rfl, hb⟩; refine ⟨_, rfl, ?_⟩; replace HO_5 := Aside0.mk (Kd.R_below (by (with_reducible repeat (first | apply Kd.R_alloc | apply Kd.R_drewN | apply Kd.R_drew)); exact (Kd.R_mono (Kd.R_far (p := ⟨gb302, 9, none⟩) (Kd.R_far (p := ⟨gb302, 8, none⟩) (Kd.R_far (p := ⟨gb302, 7, none⟩) (Kd.R_far (p := ⟨gb302, 6, none⟩) (Kd.R_far (p := ⟨gb302, 5, none⟩) (Kd.R_far (p := ⟨gb302, 4, none⟩) (Kd.R_far (p := ⟨gb302, 3, none⟩) (Kd.R_far (p := ⟨gb302, 2, none⟩) (Kd.R_far (p := ⟨gb302, 1, none⟩) (Kd.R_far (p := ⟨gb302, 0, none⟩) (Kd.R_types HO_5.out BK302.out (by decide)) (fun _ hk => hk.2) (.int .i64 ((rd_T56 l0 x13_1).f0))) (fun _ hk => hk.2) (.int .i64 ((rd_T56 l0 x13_1).f1.f0))) (fun _ hk => hk.2) (.int .i64 ((rd_T56 l0 x13_1).f1.f1))) (fun _ hk => hk.2) (.int .i64 ((rd_T56 l0 x13_1).f2))) (fun _ hk => hk.2) (.int .i64 ((rd_T56 l0 x13_1).f3.f0))) (fun _ hk => hk.2) (.int .i64 ((rd_T56 l0 x13_1).f3.f1))) (fun _ hk => hk.2) (.int .i64 ((rd_T56 l0 x13_1).f4.f0))) (fun _ hk => hk.2) (.int .i64 ((rd_T56 l0 x13_1).f4.f1))) (fun _ hk => hk.2) (.int .i64 ((rd_T56 l0 x13_1).f5))) (fun _ hk => hk.2) (.int .i64 ((rd_T56 l0 x13_1).f6))) (fun _ h_ => h_.1))) hb); replace BK297 := Aside0.mk (blk_below (g := gb297) (o := .cells #[.int .i64 a1_0, .int .i64 a1_1] 49 (0, 0)) (bk_ BK297) hb); replace BK302 := Aside0.mk (blk_below (g := gb302) (o := .cells #[.int .i64 ((rd_T56 l0 x13_1).f0), .int .i64 ((rd_T56 l0 x13_1).f1.f0), .int .i64 ((rd_T56 l0 x13_1).f1.f1), .int .i64 ((rd_T56 l0 x13_1).f2), .int .i64 ((rd_T56 l0 x13_1).f3.f0), .int .i64 ((rd_T56 l0 x13_1).f3.f1), .int .i64 ((rd_T56 l0 x13_1).f4.f0), .int .i64 ((rd_T56 l0 x13_1).f4.f1), .int .i64 ((rd_T56 l0 x13_1).f5), .int .i64 ((rd_T56 l0 x13_1).f6)] 56 (0, 0)) (bk_ BK302) hb); replace HB := hbs_ hb; clear hb; have hcz18 := blk_cell BK302.out; have hfz18 := blk_frozen BK302.out; have hcz19 := blk_cell BK297.out; have hfz19 := blk_frozen BK297.out))
      go_meet
      case rel => exact ⟨_, ((!(((rd_T56 l0 x13_1).f1.f0) == a1_0) || (!(((rd_T56 l0 x13_1).f1.f1) == a1_1)))), rf_, H', ⟨by have := HK1.out; first | omega | exact Nat.le_refl _⟩, ⟨by (with_reducible repeat (first | apply Kd.R_alloc | apply Kd.R_drewN | apply Kd.R_drew)); exact HO_5.out⟩, ⟨bk_ BK297⟩, ⟨bk_ BK302⟩, ⟨bl_⟩⟩
     ·replace c14 := Bool.eq_false_iff.mpr c14
      subst c14
      replace H := ite_f_ H
      have H' := Aside0.mk H
      clear H
      have hnb20 := NB302_297.out
      have hnc20 := NB297_302.out
      have hcz21 := blk_cell BK302.out
      have hfz21 := blk_frozen BK302.out
      go_wp2_with (first | ((with_reducible refine gate_callee (f := 96) rfl ?_); refine goesC_ (some 18) Try.func96 #[.agg #[.int .i64 ((rd_T56 l0 x13_1).f0), .int .i64 ((rd_T56 l0 x13_1).f1.f0), .int .i64 ((rd_T56 l0 x13_1).f1.f1), .int .i64 ((rd_T56 l0 x13_1).f2), .int .i64 ((rd_T56 l0 x13_1).f3.f0), .int .i64 ((rd_T56 l0 x13_1).f3.f1), .int .i64 ((rd_T56 l0 x13_1).f4.f0), .int .i64 ((rd_T56 l0 x13_1).f4.f1), .int .i64 ((rd_T56 l0 x13_1).f5), .int .i64 ((rd_T56 l0 x13_1).f6)]] ?_; (with_reducible refine (impl_CredOk.calls k1 ((rd_T56 l0 x13_1).f0) ((rd_T56 l0 x13_1).f1.f0) ((rd_T56 l0 x13_1).f1.f1) ((rd_T56 l0 x13_1).f2) ((rd_T56 l0 x13_1).f3.f0) ((rd_T56 l0 x13_1).f3.f1) ((rd_T56 l0 x13_1).f4.f0) ((rd_T56 l0 x13_1).f4.f1) ((rd_T56 l0 x13_1).f5) ((rd_T56 l0 x13_1).f6) false _ A13.out).mono ?_); rintro e w22 ⟨rfl, hb⟩; refine ⟨_, rfl, ?_⟩; replace HO_5 := Aside0.mk (Kd.R_below (by (with_reducible repeat (first | apply Kd.R_alloc | apply Kd.R_drewN | apply Kd.R_drew)); exact (Kd.R_mono (Kd.R_far (p := ⟨gb302, 9, none⟩) (Kd.R_far (p := ⟨gb302, 8, none⟩) (Kd.R_far (p := ⟨gb302, 7, none⟩) (Kd.R_far (p := ⟨gb302, 6, none⟩) (Kd.R_far (p := ⟨gb302, 5, none⟩) (Kd.R_far (p := ⟨gb302, 4, none⟩) (Kd.R_far (p := ⟨gb302, 3, none⟩) (Kd.R_far (p := ⟨gb302, 2, none⟩) (Kd.R_far (p := ⟨gb302, 1, none⟩) (Kd.R_far (p := ⟨gb302, 0, none⟩) (Kd.R_types HO_5.out BK302.out (by decide)) (fun _ hk => hk.2) (.int .i64 ((rd_T56 l0 x13_1).f0))) (fun _ hk => hk.2) (.int .i64 ((rd_T56 l0 x13_1).f1.f0))) (fun _ hk => hk.2) (.int .i64 ((rd_T56 l0 x13_1).f1.f1))) (fun _ hk => hk.2) (.int .i64 ((rd_T56 l0 x13_1).f2))) (fun _ hk => hk.2) (.int .i64 ((rd_T56 l0 x13_1).f3.f0))) (fun _ hk => hk.2) (.int .i64 ((rd_T56 l0 x13_1).f3.f1))) (fun _ hk => hk.2) (.int .i64 ((rd_T56 l0 x13_1).f4.f0))) (fun _ hk => hk.2) (.int .i64 ((rd_T56 l0 x13_1).f4.f1))) (fun _ hk => hk.2) (.int .i64 ((rd_T56 l0 x13_1).f5))) (fun _ hk => hk.2) (.int .i64 ((rd_T56 l0 x13_1).f6))) (fun _ h_ => h_.1))) hb); replace BK297 := Aside0.mk (blk_below (g := gb297) (o := .cells #[.int .i64 a1_0, .int .i64 a1_1] 49 (0, 0)) (bk_ BK297) hb); replace BK302 := Aside0.mk (blk_below (g := gb302) (o := .cells #[.int .i64 ((rd_T56 l0 x13_1).f0), .int .i64 ((rd_T56 l0 x13_1).f1.f0), .int .i64 ((rd_T56 l0 x13_1).f1.f1), .int .i64 ((rd_T56 l0 x13_1).f2), .int .i64 ((rd_T56 l0 x13_1).f3.f0), .int .i64 ((rd_T56 l0 x13_1).f3.f1), .int .i64 ((rd_T56 l0 x13_1).f4.f0), .int .i64 ((rd_T56 l0 x13_1).f4.f1), .int .i64 ((rd_T56 l0 x13_1).f5), .int .i64 ((rd_T56 l0 x13_1).f6)] 56 (0, 0)) (bk_ BK302) hb); replace HB := hbs_ hb; clear hb))
      go_meet
      case rel => exact ⟨_, (true), rf_, H', ⟨by have := HK1.out; first | omega | exact Nat.le_refl _⟩, ⟨by (with_reducible repeat (first | apply Kd.R_alloc | apply Kd.R_drewN | apply Kd.R_drew)); exact HO_5.out⟩, ⟨bk_ BK297⟩, ⟨bk_ BK302⟩, ⟨bl_⟩⟩
    case rest =>
     clear HC9
     try clear c1
     try clear c2
     try clear p2
     try clear p3
     try clear q3
     try clear hx3
     try clear c6
     try clear c6b0
     try clear c7
     try clear c7b0
     try clear c8
     try clear c8b0
     try clear c9
     try clear c11
     try clear c14
     try clear c15
     try clear c20
     try clear hcz12
     try clear hcz16
     try clear hcz18
     try clear hcz19
     try clear hcz21
     try clear hfz12
     try clear hfz16
     try clear hfz18
     try clear hfz19
     try clear hfz21
     try clear hx301_0
     try clear hx301_1
     try clear hx301_2
     try clear hx301_3
     try clear hx301_4
     try clear hx301_5
     try clear hx301_6
     try clear hx301_7
     try clear hx301_8
     try clear hx301_9
     try clear p2
     try clear p301
     try clear q301
     obtain ⟨kq, x25_8, rfl, HA, HJ8, HO_5, BK297, BK302, HB⟩ := hcut
     cases kq with
     | zero => exact absurd HA.out (by simp [impl_LeansOn.j1])
     | succ kj8 =>
      have H := HA.out
      clear HA
      simp only [impl_LeansOn.j1] at H
      by_cases c23 : x25_8 = true
      ·subst c23
       replace H := ite_t_ H
       have H' := Aside0.mk H
       clear H
       go_wp2
       go_roundg kj8
       case measure => have := HK1.out; have := HJ8.out; omega
       case rel => exact ⟨(x5_1), (wrap64 (x13_1 + 1)), rf_, H', ⟨by have := HK1.out; have := HJ8.out; omega⟩, ⟨by (with_reducible repeat (first | apply Kd.R_alloc | apply Kd.R_drewN | apply Kd.R_drew)); exact HO_5.out⟩, ⟨bk_ BK297⟩, ⟨bl_⟩⟩
      ·replace c23 := Bool.eq_false_iff.mpr c23
       subst c23
       replace H := ite_f_ H
       obtain ⟨t304, A24, H⟩ := bindE_ H
       have H' := Aside0.mk H
       clear H
       have hnb25 := NB302_297.out
       have hnc25 := NB297_302.out
       have hcz26 := blk_cell BK302.out
       have hfz26 := blk_frozen BK302.out
       go_wp2_with (first | ((with_reducible refine gate_callee (f := 135) rfl ?_); refine goesC_ (some 28) Try.func135 #[.slice (some ad301) l0.length c0, .agg #[.int .i64 ((rd_T56 l0 x13_1).f0), .int .i64 ((rd_T56 l0 x13_1).f1.f0), .int .i64 ((rd_T56 l0 x13_1).f1.f1), .int .i64 ((rd_T56 l0 x13_1).f2), .int .i64 ((rd_T56 l0 x13_1).f3.f0), .int .i64 ((rd_T56 l0 x13_1).f3.f1), .int .i64 ((rd_T56 l0 x13_1).f4.f0), .int .i64 ((rd_T56 l0 x13_1).f4.f1), .int .i64 ((rd_T56 l0 x13_1).f5), .int .i64 ((rd_T56 l0 x13_1).f6)]] ?_; (with_reducible refine (impl_leads.calls kj8 _ _ l0 ((rd_T56 l0 x13_1).f0) ((rd_T56 l0 x13_1).f1.f0) ((rd_T56 l0 x13_1).f1.f1) ((rd_T56 l0 x13_1).f2) ((rd_T56 l0 x13_1).f3.f0) ((rd_T56 l0 x13_1).f3.f1) ((rd_T56 l0 x13_1).f4.f0) ((rd_T56 l0 x13_1).f4.f1) ((rd_T56 l0 x13_1).f5) ((rd_T56 l0 x13_1).f6) t304 _ ?side1 ?side2 A24.out).mono ?_); (case side1 => repeat (first | exact (Kd.C_below HR0.out HB.out) | (with_reducible refine Kd.C_alloc ?_ _) | (with_reducible refine Kd.C_drewN ?_ _) | (with_reducible refine Kd.C_drew ?_))); (case side2 => exact HC0.out); rintro e w27 ⟨v305, rfl, ho0, hb⟩; refine ⟨_, rfl, ?_⟩; have HO306 := Aside0.mk (Kd.R_lower (Kd.R_newB (Kd.R_new' ho0 (Kd.R_lt (by (with_reducible repeat (first | apply Kd.R_alloc | apply Kd.R_drewN | apply Kd.R_drew)); exact HO_5.out))) (g := gb297) (o := .cells #[.int .i64 a1_0, .int .i64 a1_1] 49 (0, 0)) (bk_ BK297)) bls_); replace HO_5 := Aside0.mk (Kd.R_elder' (by (with_reducible repeat (first | apply Kd.R_alloc | apply Kd.R_drewN | apply Kd.R_drew)); exact HO_5.out) (Kd.R_base ho0) hb); replace BK297 := bkb_ BK297 hb; replace BK302 := bkb_ BK302 hb; replace HB := hbs_ hb; (try clear hb); (try clear hb2); (try clear hk); (try clear hi); (try clear ho0); obtain ⟨Ao28, co28, eo28⟩ := Kd.R_slice HO306.out; subst eo28))
       go_loopg [5, 30] kj8 (fun kq v5 v30 w' => ∃ (x5_3 : List (S49)) (x30_3 : Int), v30 = .int .i64 x30_3 ∧ Aside0 (impl_LeansOn.l1 kq l0 x5_3 l0 (l0.length : Int) x13_1 t304 (t304.length : Int) x30_3 a1_0 a1_1 = some r) ∧ Aside0 (kq ≤ kj8) ∧ Aside0 (Kd.R k49 49 w' w.heap.size (fun k_ => some k_ ≠ ((.slice Ao28 t304.length co28) : Value).ownBlock ∧ k_ ≠ gb297) v5 x5_3) ∧ Aside0 (Kd.R k49 49 w' w.heap.size (fun k_ => some k_ ≠ (v5 : Value).ownBlock ∧ k_ ≠ gb297) (.slice Ao28 t304.length co28) t304) ∧ Aside0 (w'.heap[gb297]? = some (.cells #[.int .i64 a1_0, .int .i64 a1_1] 49 (0, 0))) ∧ Aside0 (w'.heap[gb302]? = some (.cells #[.int .i64 ((rd_T56 l0 x13_1).f0), .int .i64 ((rd_T56 l0 x13_1).f1.f0), .int .i64 ((rd_T56 l0 x13_1).f1.f1), .int .i64 ((rd_T56 l0 x13_1).f2), .int .i64 ((rd_T56 l0 x13_1).f3.f0), .int .i64 ((rd_T56 l0 x13_1).f3.f1), .int .i64 ((rd_T56 l0 x13_1).f4.f0), .int .i64 ((rd_T56 l0 x13_1).f4.f1), .int .i64 ((rd_T56 l0 x13_1).f5), .int .i64 ((rd_T56 l0 x13_1).f6)] 56 (0, 0))) ∧ Aside0 (Below w.heap.size w w'))
       case atStart => exact ⟨(x5_1), (0), rf_, H', ⟨Nat.le_refl _⟩, ⟨by (with_reducible repeat (first | apply Kd.R_alloc | apply Kd.R_drewN | apply Kd.R_drew)); exact Kd.R_mono HO_5.out (fun _ hk => ⟨hk.2, hk.1⟩)⟩, ⟨by (with_reducible repeat (first | apply Kd.R_alloc | apply Kd.R_drewN | apply Kd.R_drew)); exact Kd.R_mono HO306.out (fun _ hk => ⟨hk.1.2, hk.2⟩)⟩, ⟨bk_ BK297⟩, ⟨bk_ BK302⟩, ⟨bl_⟩⟩
       case round =>
        clear H'
        try clear c1
        try clear c2
        try clear p2
        try clear p3
        try clear q3
        try clear hx3
        try clear c6
        try clear c6b0
        try clear p6
        try clear c7
        try clear c7b0
        try clear c8
        try clear c8b0
        try clear c9
        try clear c11
        try clear c13
        try clear c14
        try clear c15
        try clear c20
        try clear c23
        try clear c25
        try clear hcz12
        try clear hcz16
        try clear hcz18
        try clear hcz19
        try clear hcz21
        try clear hcz26
        try clear hfz12
        try clear hfz16
        try clear hfz18
        try clear hfz19
        try clear hfz21
        try clear hfz26
        try clear hx301_0
        try clear hx301_1
        try clear hx301_2
        try clear hx301_3
        try clear hx301_4
        try clear hx301_5
        try clear hx301_6
        try clear hx301_7
        try clear hx301_8
        try clear hx301_9
        try clear p2
        try clear p3
        try clear p301
        try clear q3
        try clear q301
        obtain ⟨x5_3, x30_3, rfl, HA, HK3, HO_5, HO_28, BK297, BK302, HB⟩ := hrel
        cases gk with
        | zero => exact absurd HA.out (by simp [impl_LeansOn.l1])
        | succ k3 =>
         have H := HA.out
         clear HA
         simp only [impl_LeansOn.l1] at H
         by_cases c29 : x30_3 < (t304.length : Int)
         ·rw [if_pos c29] at H
          have c29b0 : decide (x30_3 < (t304.length : Int)) = true := decide_eq_true c29
          clear c29
          obtain ⟨c30b0, H⟩ := ifd_ H
          obtain ⟨c31b0, H⟩ := ifd_ H
          obtain ⟨t309, A32, H⟩ := bindE_ H
          by_cases c33 : t309 = true
          ·subst c33
           replace H := ite_t_ H
           have H' := Aside0.mk H
           clear H
           have p307 : 0 ≤ (x30_3 : Int) := od_
           have q307 : x30_3 < (t304.length : Int) := od_
           obtain ⟨ad307, e307, hx307_0, hx307_1⟩ := at_T49 (Kd.R_reads' HO_28.out).2.2 x30_3 p307 q307
           cases e307
           replace p307 := eq_true p307
           replace q307 := eq_true q307
           go_wp2_with (first | ((with_reducible refine gate_dst (N := 9) rfl ?_); refine box_event ?hg (N := 9) ?hd (cs := #[.int .i64 0, .int .i64 0]) (t := 49) ?hr ?_; (case hd => rfl); (case hg => rfl); (case hr => first | (go_simp; done) | (go_simp; rfl)); intro gb308 hg w34 hbox hb; replace HO_5 := Aside0.mk (Kd.R_below (Kd.R_elderB (by (with_reducible repeat (first | apply Kd.R_alloc | apply Kd.R_drewN | apply Kd.R_drew)); exact HO_5.out) gb308 (Nat.le_of_eq hg.symm)) hb); replace HO_28 := Aside0.mk (Kd.R_below (Kd.R_elderB (by (with_reducible repeat (first | apply Kd.R_alloc | apply Kd.R_drewN | apply Kd.R_drew)); exact HO_28.out) gb308 (Nat.le_of_eq hg.symm)) hb); have BK308 := Aside0.mk (hbox); have GW308 := gs_ hg; have GE308 := gs_ hg; replace HB := hbs_ hb; have NB297_308 := nl_ hg BK297; have NB308_297 := nr_ hg BK297; replace BK297 := bkb_ BK297 hb; have NB302_308 := nl_ hg BK302; have NB308_302 := nr_ hg BK302; replace BK302 := bkb_ BK302 hb; clear hb hbox hg; have hnb35 := NB308_297.out; have hnc35 := NB297_308.out; have hnb36 := NB308_302.out; have hnc36 := NB302_308.out; have hcz37 := blk_cell BK308.out; have hfz37 := blk_frozen BK308.out; obtain ⟨Ao38, co38, eo38⟩ := Kd.R_slice HO_5.out; subst eo38) | ((with_reducible refine gate_callee (f := 125) rfl ?_); refine goesC_ (some 36) Try.func125 #[.slice Ao38 x5_3.length co38, .agg #[.int .i64 ((rd_T49 t304 x30_3).f0), .int .i64 ((rd_T49 t304 x30_3).f1)]] ?_; (with_reducible refine (impl_Role_125.calls k3 _ _ x5_3 ((rd_T49 t304 x30_3).f0) ((rd_T49 t304 x30_3).f1) true _ ?side1 ?side2 A32.out).mono ?_); (case side1 => refine (Kd.R_reads' (e := 49) (base := w.heap.size) (ok := fun k_ => ((some k_ ≠ (.slice (some ad307) t304.length co28 : Value).ownBlock ∧ k_ ≠ gb297) ∧ k_ ≠ gb308)) (n := x5_3.length) (c := co38) ?_).2.2; exact (by (with_reducible repeat (first | apply Kd.R_alloc | apply Kd.R_drewN | apply Kd.R_drew)); exact (Kd.R_mono (Kd.R_far (p := ⟨gb308, 1, none⟩) (Kd.R_far (p := ⟨gb308, 0, none⟩) (Kd.R_mono HO_5.out (fun k_ hk => (⟨hk, hk.2⟩ : _ ∧ k_ ≠ gb308))) (fun _ hk => hk.2) (.int .i64 ((rd_T49 t304 x30_3).f0))) (fun _ hk => hk.2) (.int .i64 ((rd_T49 t304 x30_3).f1))) (fun _ h_ => h_.1)))); (case side2 => exact (Kd.R_reads' HO_5.out).2.1); rintro e w39 ⟨rfl, hb⟩; refine ⟨_, rfl, ?_⟩; replace HO_5 := Aside0.mk (Kd.R_below (by (with_reducible repeat (first | apply Kd.R_alloc | apply Kd.R_drewN | apply Kd.R_drew)); exact (Kd.R_mono (Kd.R_far (p := ⟨gb308, 1, none⟩) (Kd.R_far (p := ⟨gb308, 0, none⟩) (Kd.R_mono HO_5.out (fun k_ hk => (⟨hk, hk.2⟩ : _ ∧ k_ ≠ gb308))) (fun _ hk => hk.2) (.int .i64 ((rd_T49 t304 x30_3).f0))) (fun _ hk => hk.2) (.int .i64 ((rd_T49 t304 x30_3).f1))) (fun _ h_ => h_.1))) hb); replace HO_28 := Aside0.mk (Kd.R_below (by (with_reducible repeat (first | apply Kd.R_alloc | apply Kd.R_drewN | apply Kd.R_drew)); exact (Kd.R_mono (Kd.R_far (p := ⟨gb308, 1, none⟩) (Kd.R_far (p := ⟨gb308, 0, none⟩) (Kd.R_mono HO_28.out (fun k_ hk => (⟨hk, hk.2⟩ : _ ∧ k_ ≠ gb308))) (fun _ hk => hk.2) (.int .i64 ((rd_T49 t304 x30_3).f0))) (fun _ hk => hk.2) (.int .i64 ((rd_T49 t304 x30_3).f1))) (fun _ h_ => h_.1))) hb); replace BK297 := Aside0.mk (blk_below (g := gb297) (o := .cells #[.int .i64 a1_0, .int .i64 a1_1] 49 (0, 0)) (bk_ BK297) hb); replace BK302 := Aside0.mk (blk_below (g := gb302) (o := .cells #[.int .i64 ((rd_T56 l0 x13_1).f0), .int .i64 ((rd_T56 l0 x13_1).f1.f0), .int .i64 ((rd_T56 l0 x13_1).f1.f1), .int .i64 ((rd_T56 l0 x13_1).f2), .int .i64 ((rd_T56 l0 x13_1).f3.f0), .int .i64 ((rd_T56 l0 x13_1).f3.f1), .int .i64 ((rd_T56 l0 x13_1).f4.f0), .int .i64 ((rd_T56 l0 x13_1).f4.f1), .int .i64 ((rd_T56 l0 x13_1).f5), .int .i64 ((rd_T56 l0 x13_1).f6)] 56 (0, 0)) (bk_ BK302) hb); replace BK308 := Aside0.mk (blk_below (g := gb308) (o := .cells #[.int .i64 ((rd_T49 t304 x30_3).f0), .int .i64 ((rd_T49 t304 x30_3).f1)] 49 (0, 0)) (bk_ BK308) hb); replace HB := hbs_ hb; clear hb))
           go_roundg k3
           case measure => have := HK1.out; have := HJ8.out; have := HK3.out; omega
           case rel => exact ⟨(x5_3), (wrap64 (x30_3 + 1)), rf_, H', ⟨by have := HK1.out; have := HJ8.out; have := HK3.out; omega⟩, ⟨by (with_reducible repeat (first | apply Kd.R_alloc | apply Kd.R_drewN | apply Kd.R_drew)); exact Kd.R_mono HO_5.out (fun _ hk => ⟨hk.1.1, hk.1.2⟩)⟩, ⟨by (with_reducible repeat (first | apply Kd.R_alloc | apply Kd.R_drewN | apply Kd.R_drew)); exact Kd.R_mono HO_28.out (fun _ hk => ⟨hk.1.1, hk.1.2⟩)⟩, ⟨bk_ BK297⟩, ⟨bk_ BK302⟩, ⟨bl_⟩⟩
          ·replace c33 := Bool.eq_false_iff.mpr c33
           subst c33
           replace H := ite_f_ H
           obtain ⟨c40, H⟩ := ifn_ H
           have LMc40 := Aside0.mk c40
           clear c40
           obtain ⟨y310, hy310⟩ : ∃ y_ : List (S49), y_ = (x5_3 ++ [(⟨(rd_T49 t304 x30_3).f0, (rd_T49 t304 x30_3).f1⟩ : S49)]) := ⟨_, rfl⟩
           replace H : (impl_LeansOn.l1 k3 l0 y310 l0 (l0.length : Int) x13_1 t304 (t304.length : Int) (wrap64 (x30_3 + 1)) a1_0 a1_1) = some r := by first | (rw [hy310]; with_reducible exact H) | (have H2_ := (Option.bind_some _ _).symm.trans H; rw [hy310]; with_reducible exact H2_) | (have H2_ := (Option.bind_some _ _).symm.trans H; with_reducible exact H2_) | with_reducible exact H | (rw [hy310]; exact H) | exact H
           have Ny310 := Aside0.mk hy310
           clear hy310
           have H' := Aside0.mk H
           clear H
           have p307 : 0 ≤ (x30_3 : Int) := od_
           have q307 : x30_3 < (t304.length : Int) := od_
           obtain ⟨ad307, e307, hx307_0, hx307_1⟩ := at_T49 (Kd.R_reads' HO_28.out).2.2 x30_3 p307 q307
           cases e307
           replace p307 := eq_true p307
           replace q307 := eq_true q307
           go_wp2_with (first | ((with_reducible refine gate_dst (N := 9) rfl ?_); refine box_event ?hg (N := 9) ?hd (cs := #[.int .i64 0, .int .i64 0]) (t := 49) ?hr ?_; (case hd => rfl); (case hg => rfl); (case hr => first | (go_simp; done) | (go_simp; rfl)); intro gb308 hg w41 hbox hb; replace HO_5 := Aside0.mk (Kd.R_below (Kd.R_elderB (by (with_reducible repeat (first | apply Kd.R_alloc | apply Kd.R_drewN | apply Kd.R_drew)); exact HO_5.out) gb308 (Nat.le_of_eq hg.symm)) hb); replace HO_28 := Aside0.mk (Kd.R_below (Kd.R_elderB (by (with_reducible repeat (first | apply Kd.R_alloc | apply Kd.R_drewN | apply Kd.R_drew)); exact HO_28.out) gb308 (Nat.le_of_eq hg.symm)) hb); have BK308 := Aside0.mk (hbox); have GW308 := gs_ hg; have GE308 := gs_ hg; replace HB := hbs_ hb; have NB297_308 := nl_ hg BK297; have NB308_297 := nr_ hg BK297; replace BK297 := bkb_ BK297 hb; have NB302_308 := nl_ hg BK302; have NB308_302 := nr_ hg BK302; replace BK302 := bkb_ BK302 hb; clear hb hbox hg; have hnb42 := NB308_297.out; have hnc42 := NB297_308.out; have hnb43 := NB308_302.out; have hnc43 := NB302_308.out; have hcz44 := blk_cell BK308.out; have hfz44 := blk_frozen BK308.out; obtain ⟨Ao45, co45, eo45⟩ := Kd.R_slice HO_5.out; subst eo45) | ((with_reducible refine gate_callee (f := 125) rfl ?_); refine goesC_ (some 36) Try.func125 #[.slice Ao45 x5_3.length co45, .agg #[.int .i64 ((rd_T49 t304 x30_3).f0), .int .i64 ((rd_T49 t304 x30_3).f1)]] ?_; (with_reducible refine (impl_Role_125.calls k3 _ _ x5_3 ((rd_T49 t304 x30_3).f0) ((rd_T49 t304 x30_3).f1) false _ ?side1 ?side2 A32.out).mono ?_); (case side1 => refine (Kd.R_reads' (e := 49) (base := w.heap.size) (ok := fun k_ => ((some k_ ≠ (.slice (some ad307) t304.length co28 : Value).ownBlock ∧ k_ ≠ gb297) ∧ k_ ≠ gb308)) (n := x5_3.length) (c := co45) ?_).2.2; exact (by (with_reducible repeat (first | apply Kd.R_alloc | apply Kd.R_drewN | apply Kd.R_drew)); exact (Kd.R_mono (Kd.R_far (p := ⟨gb308, 1, none⟩) (Kd.R_far (p := ⟨gb308, 0, none⟩) (Kd.R_mono HO_5.out (fun k_ hk => (⟨hk, hk.2⟩ : _ ∧ k_ ≠ gb308))) (fun _ hk => hk.2) (.int .i64 ((rd_T49 t304 x30_3).f0))) (fun _ hk => hk.2) (.int .i64 ((rd_T49 t304 x30_3).f1))) (fun _ h_ => h_.1)))); (case side2 => exact (Kd.R_reads' HO_5.out).2.1); rintro e w46 ⟨rfl, hb⟩; refine ⟨_, rfl, ?_⟩; replace HO_5 := Aside0.mk (Kd.R_below (by (with_reducible repeat (first | apply Kd.R_alloc | apply Kd.R_drewN | apply Kd.R_drew)); exact (Kd.R_mono (Kd.R_far (p := ⟨gb308, 1, none⟩) (Kd.R_far (p := ⟨gb308, 0, none⟩) (Kd.R_mono HO_5.out (fun k_ hk => (⟨hk, hk.2⟩ : _ ∧ k_ ≠ gb308))) (fun _ hk => hk.2) (.int .i64 ((rd_T49 t304 x30_3).f0))) (fun _ hk => hk.2) (.int .i64 ((rd_T49 t304 x30_3).f1))) (fun _ h_ => h_.1))) hb); replace HO_28 := Aside0.mk (Kd.R_below (by (with_reducible repeat (first | apply Kd.R_alloc | apply Kd.R_drewN | apply Kd.R_drew)); exact (Kd.R_mono (Kd.R_far (p := ⟨gb308, 1, none⟩) (Kd.R_far (p := ⟨gb308, 0, none⟩) (Kd.R_mono HO_28.out (fun k_ hk => (⟨hk, hk.2⟩ : _ ∧ k_ ≠ gb308))) (fun _ hk => hk.2) (.int .i64 ((rd_T49 t304 x30_3).f0))) (fun _ hk => hk.2) (.int .i64 ((rd_T49 t304 x30_3).f1))) (fun _ h_ => h_.1))) hb); replace BK297 := Aside0.mk (blk_below (g := gb297) (o := .cells #[.int .i64 a1_0, .int .i64 a1_1] 49 (0, 0)) (bk_ BK297) hb); replace BK302 := Aside0.mk (blk_below (g := gb302) (o := .cells #[.int .i64 ((rd_T56 l0 x13_1).f0), .int .i64 ((rd_T56 l0 x13_1).f1.f0), .int .i64 ((rd_T56 l0 x13_1).f1.f1), .int .i64 ((rd_T56 l0 x13_1).f2), .int .i64 ((rd_T56 l0 x13_1).f3.f0), .int .i64 ((rd_T56 l0 x13_1).f3.f1), .int .i64 ((rd_T56 l0 x13_1).f4.f0), .int .i64 ((rd_T56 l0 x13_1).f4.f1), .int .i64 ((rd_T56 l0 x13_1).f5), .int .i64 ((rd_T56 l0 x13_1).f6)] 56 (0, 0)) (bk_ BK302) hb); replace BK308 := Aside0.mk (blk_below (g := gb308) (o := .cells #[.int .i64 ((rd_T49 t304 x30_3).f0), .int .i64 ((rd_T49 t304 x30_3).f1)] 49 (0, 0)) (bk_ BK308) hb); replace HB := hbs_ hb; clear hb; have hcz47 := blk_cell BK308.out; have hfz47 := blk_frozen BK308.out) | ((with_reducible refine gate_builtin (b := .append) (xs := #[.tmp 38, .tmp 40]) rfl ?_); at_builtin; refine Kd.R_append k49 (w0 := w) w.heap.size rfl (.tmp 38) (.tmp 40) 69 49 (.agg #[(.int .i64 0), (.int .i64 0)]) 16 rfl Try.underlying69 info49 rfl (by decide) (by omega) (.slice Ao45 x5_3.length co45) x5_3 (⟨(rd_T49 t304 x30_3).f0, (rd_T49 t304 x30_3).f1⟩ : S49) [.int .i64 ((rd_T49 t304 x30_3).f0), .int .i64 ((rd_T49 t304 x30_3).f1)] (fun k_ => some k_ ≠ (.slice (some ad307) t304.length co28 : Value).ownBlock ∧ k_ ≠ gb297 ∧ k_ ≠ gb308) (fun _ => False) rfl rfl ?aP (fun _ hk => hk.elim) ?aF ?aO ?aB ?aS ?aL ?_; (case aP => exact k49_mkM _ _ _ (⟨(rd_T49 t304 x30_3).f0, (rd_T49 t304 x30_3).f1⟩ : S49)); (case aB => exact bl_); (case aF => exact (fun k_ hk => ⟨Kd.fresh' (Kd.R_lt (by (with_reducible repeat (first | apply Kd.R_alloc | apply Kd.R_drewN | apply Kd.R_drew)); exact HO_28.out)) k_ hk, Kd.freshB (g := gb297) (o := .cells #[.int .i64 a1_0, .int .i64 a1_1] 49 (0, 0)) (bk_ BK297) k_ hk, Kd.freshB (g := gb308) (o := .cells #[.int .i64 ((rd_T49 t304 x30_3).f0), .int .i64 ((rd_T49 t304 x30_3).f1)] 49 (0, 0)) (bk_ BK308) k_ hk⟩)); (case aO => exact (by (with_reducible repeat (first | apply Kd.R_alloc | apply Kd.R_drewN | apply Kd.R_drew)); exact Kd.R_mono HO_5.out (fun _ hk => ⟨hk.1.1, ⟨hk.1.2, hk.2⟩⟩))); (case aS => exact bls_); (case aL => have := LMc40.out; omega); intro v311 w48 ho hb hg hat; rw [← Ny310.out] at ho; replace HO_28 := Aside0.mk (Kd.R_after (ok := (fun k_ => k_ ≠ gb297 ∧ k_ ≠ gb308)) (by (with_reducible repeat (first | apply Kd.R_alloc | apply Kd.R_drewN | apply Kd.R_drew)); exact Kd.R_mono HO_28.out (fun _ hk => ⟨⟨hk.1.2, hk.2⟩, hk.1.1⟩)) hg hat); replace BK297 := Aside0.mk (blk_grown (g := gb297) (o := .cells #[.int .i64 a1_0, .int .i64 a1_1] 49 (0, 0)) (bk_ BK297) hg (Kd.R_away HO_5.out (fun _ hk => hk.1.2))); replace BK302 := Aside0.mk (blk_grown (g := gb302) (o := .cells #[.int .i64 ((rd_T56 l0 x13_1).f0), .int .i64 ((rd_T56 l0 x13_1).f1.f0), .int .i64 ((rd_T56 l0 x13_1).f1.f1), .int .i64 ((rd_T56 l0 x13_1).f2), .int .i64 ((rd_T56 l0 x13_1).f3.f0), .int .i64 ((rd_T56 l0 x13_1).f3.f1), .int .i64 ((rd_T56 l0 x13_1).f4.f0), .int .i64 ((rd_T56 l0 x13_1).f4.f1), .int .i64 ((rd_T56 l0 x13_1).f5), .int .i64 ((rd_T56 l0 x13_1).f6)] 56 (0, 0)) (bk_ BK302) hg (Kd.R_ne HO_5.out BK302.out (by decide))); replace BK308 := Aside0.mk (blk_grown (g := gb308) (o := .cells #[.int .i64 ((rd_T49 t304 x30_3).f0), .int .i64 ((rd_T49 t304 x30_3).f1)] 49 (0, 0)) (bk_ BK308) hg (Kd.R_away HO_5.out (fun _ hk => hk.2))); replace HB := Aside0.mk (hb); have HO312 := Aside0.mk (ho); clear HO_5; clear ho hb hg hat))
           go_roundg k3
           case measure => have := HK1.out; have := HJ8.out; have := HK3.out; omega
           case rel => exact ⟨(y310), (wrap64 (x30_3 + 1)), rf_, H', ⟨by have := HK1.out; have := HJ8.out; have := HK3.out; omega⟩, ⟨by (with_reducible repeat (first | apply Kd.R_alloc | apply Kd.R_drewN | apply Kd.R_drew)); exact Kd.R_mono HO312.out (fun _ hk => ⟨hk.1, hk.2.1⟩)⟩, ⟨by (with_reducible repeat (first | apply Kd.R_alloc | apply Kd.R_drewN | apply Kd.R_drew)); exact Kd.R_mono HO_28.out (fun _ hk => ⟨hk.2, hk.1.1⟩)⟩, ⟨bk_ BK297⟩, ⟨bk_ BK302⟩, ⟨bl_⟩⟩
         ·rw [if_neg c29] at H
          have c29b0 : decide (x30_3 < (t304.length : Int)) = false := decide_eq_false c29
          clear c29
          have H' := Aside0.mk H
          clear H
          go_wp2
          go_roundg k3
          case measure => have := HK1.out; have := HJ8.out; have := HK3.out; omega
          case rel => exact ⟨(x5_3), (wrap64 (x13_1 + 1)), rf_, H', ⟨by have := HK1.out; have := HJ8.out; have := HK3.out; omega⟩, ⟨by (with_reducible repeat (first | apply Kd.R_alloc | apply Kd.R_drewN | apply Kd.R_drew)); exact Kd.R_mono HO_5.out (fun _ hk => hk.2)⟩, ⟨bk_ BK297⟩, ⟨bl_⟩⟩
   ·rw [if_neg c6] at H
    have c6b0 : decide (x13_1 < (l0.length : Int)) = false := decide_eq_false c6
    clear c6
    obtain rfl := Option.some.inj H
    go_wp2
    go_ret
    exact ⟨_, eq_, by (with_reducible repeat (first | apply Kd.R_alloc | apply Kd.R_drewN | apply Kd.R_drew)); exact Kd.R_mono HO_5.out (fun _ hk => trivial), bl_⟩
def spec_l01In.f (a0 : Int) (a1 : Int) (a2 : Int) : Option (Bool) := if a0 ≥ a1 then (some (decide (a0 ≤ a2))) else (some false)
set_option maxHeartbeats 8000000 in
set_option maxRecDepth 100000 in
theorem spec_l01In.calls (a0 : Int) (a1 : Int) (a2 : Int) (r : Bool) (w : World) (h : spec_l01In.f a0 a1 a2 = some r) :
  Calls Try.prog 107 #[.int .i64 a0, .int .i64 a1, .int .i64 a2] w fun e w' => e = .returned (.bool r) ∧ Drawn0 w w' := by
 have H : (if a0 ≥ a1 then (some (decide (a0 ≤ a2))) else (some false)) = some r := h
 clear h
 by_cases c4 : a0 ≥ a1
 ·rw [if_pos c4] at H
  have c4b0 : decide (a1 ≤ a0) = true := decide_eq_true c4
  clear c4
  obtain rfl := Option.some.inj H
  go_enter Try.func107, Try.ntmps107
  go_wp2
  go_ret
  exact ⟨by first | rfl | (simp; done) | (simp [*]; done), by repeat (first | exact Drawn0.refl _ | apply Drawn0.step)⟩
 ·rw [if_neg c4] at H
  have c4b0 : decide (a1 ≤ a0) = false := decide_eq_false c4
  clear c4
  obtain rfl := Option.some.inj H
  go_enter Try.func107, Try.ntmps107
  go_wp2
  go_ret
  exact ⟨by first | rfl | (simp; done) | (simp [*]; done), by repeat (first | exact Drawn0.refl _ | apply Drawn0.step)⟩
def spec_RoleOk.f (a0_0 : Int) (a0_1 : Int) : Option (Bool) := (spec_l01In.f a0_0 0 5).bind fun t314 => (if t314 = true then ((spec_l01In.f a0_1 0 3).bind fun t315 => (some t315)) else (some false))
set_option maxHeartbeats 8000000 in
set_option maxRecDepth 100000 in
theorem spec_RoleOk.calls (a0_0 : Int) (a0_1 : Int) (r : Bool) (w : World) (h : spec_RoleOk.f a0_0 a0_1 = some r) :
  Calls Try.prog 123 #[.agg #[.int .i64 a0_0, .int .i64 a0_1]] w fun e w' => e = .returned (.bool r) ∧ Below w.heap.size w w' := by
 have hu49 := Try.underlying49
 have HB := Aside0.mk (Below.refl w.heap.size w)
 have H : ((spec_l01In.f a0_0 0 5).bind fun t314 => (if t314 = true then ((spec_l01In.f a0_1 0 3).bind fun t315 => (some t315)) else (some false))) = some r := h
 clear h
 obtain ⟨t314, A2, H⟩ := bindE_ H
 by_cases c3 : t314 = true
 ·subst c3
  replace H := ite_t_ H
  obtain ⟨t315, A4, H⟩ := bindE_ H
  obtain rfl := Option.some.inj H
  go_enter Try.func123, Try.ntmps123
  go_wp2_with (first | ((with_reducible refine gate_dst (N := 1) rfl ?_); refine box_event ?hg (N := 1) ?hd (cs := #[.int .i64 a0_0, .int .i64 a0_1]) (t := 49) ?hr ?_; (case hd => rfl); (case hg => rfl); (case hr => first | (go_simp; done) | (go_simp; rfl)); intro gb313 hg w5 hbox hb; have BK313 := Aside0.mk (hbox); have GW313 := gs_ hg; have GE313 := gs_ hg; replace HB := hbs_ hb; clear hb hbox hg; have hcz6 := blk_cell BK313.out; have hfz6 := blk_frozen BK313.out) | ((with_reducible refine gate_callee (f := 107) rfl ?_); refine goesC_ (some 5) Try.func107 #[.int .i64 a0_0, .int .i64 0, .int .i64 5] ?_; (with_reducible refine (spec_l01In.calls a0_0 0 5 true _ A2.out).mono ?_); rintro e w' ⟨rfl, ⟨nd, rfl⟩⟩; refine ⟨_, rfl, ?_⟩) | (go_at_call 107; (with_reducible refine (spec_l01In.calls a0_1 0 3 t315 _ A4.out).mono ?_); rintro e w' ⟨rfl, ⟨nd, rfl⟩⟩))
  go_ret
  exact ⟨eq_, bl_⟩
 ·replace c3 := Bool.eq_false_iff.mpr c3
  subst c3
  replace H := ite_f_ H
  obtain rfl := Option.some.inj H
  go_enter Try.func123, Try.ntmps123
  go_wp2_with (first | ((with_reducible refine gate_dst (N := 1) rfl ?_); refine box_event ?hg (N := 1) ?hd (cs := #[.int .i64 a0_0, .int .i64 a0_1]) (t := 49) ?hr ?_; (case hd => rfl); (case hg => rfl); (case hr => first | (go_simp; done) | (go_simp; rfl)); intro gb313 hg w7 hbox hb; have BK313 := Aside0.mk (hbox); have GW313 := gs_ hg; have GE313 := gs_ hg; replace HB := hbs_ hb; clear hb hbox hg; have hcz8 := blk_cell BK313.out; have hfz8 := blk_frozen BK313.out) | ((with_reducible refine gate_callee (f := 107) rfl ?_); refine goesC_ (some 5) Try.func107 #[.int .i64 a0_0, .int .i64 0, .int .i64 5] ?_; (with_reducible refine (spec_l01In.calls a0_0 0 5 false _ A2.out).mono ?_); rintro e w' ⟨rfl, ⟨nd, rfl⟩⟩; refine ⟨_, rfl, ?_⟩))
  go_ret
  exact ⟨eq_, bl_⟩
end Go.Proofs.Ytjpjidgfcljpcaa.PA
