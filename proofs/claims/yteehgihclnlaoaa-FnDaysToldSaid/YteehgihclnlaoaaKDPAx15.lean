import Derived.Test.YteehgihclnlaoaaKDPAx14
-- printed by wip/tools
namespace Go.Proofs.Yteehgihclnlaoaa.PA
open Go.RowKit Go.Proofs.YteehgihclnlaoaaW.PrintWords Go.Proofs.YteehgihclnlaoaaW.PrintLast Go.Proofs.YteehgihclnlaoaaW.PrintMore
attribute [local go_sem] max2_int min2_int max_two min_two max_three min_three max_four min_four
set_option linter.unusedVariables false
set_option linter.unusedSimpArgs false
attribute [local go_sem high] eqA54
def impl_EndsOf.l0 : Nat → List Int → List (S48) → Int → Int → Option (List Int)
 | 0, _, _, _, _ => none
 | k + 1, x3, x7, x8, x9 => if x9 < x8 then (if 0 ≤ x9 then (if x9 < (x7.length : Int) then ((impl_CredOk.f k ((rd_T48 x7 x9).f0) ((rd_T48 x7 x9).f1.f0) ((rd_T48 x7 x9).f1.f1) ((rd_T48 x7 x9).f2) ((rd_T48 x7 x9).f3.f0) ((rd_T48 x7 x9).f3.f1) ((rd_T48 x7 x9).f4.f0) ((rd_T48 x7 x9).f4.f1) ((rd_T48 x7 x9).f5) ((rd_T48 x7 x9).f6)).bind fun t557 => (if t557 = true then (if x3.length < 17592186044416 then (impl_EndsOf.l0 k (x3 ++ [wrap64 (((rd_T48 x7 x9).f5) + 1)]) x7 x8 (wrap64 (x9 + 1))) else (none)) else (impl_EndsOf.l0 k x3 x7 x8 (wrap64 (x9 + 1))))) else (none)) else (none)) else ((slices_Sort_int_int.f x3).bind fun t561 => ((slices_Compact_int_int.f t561).bind fun t562 => (some t562)))
def impl_EndsOf.f (k : Nat) (l0 : List (S48)) : Option (List Int) := impl_EndsOf.l0 k (([] : List Int)) l0 (l0.length : Int) 0
set_option maxHeartbeats 8000000 in
set_option maxRecDepth 100000 in
theorem impl_EndsOf.calls (k : Nat) (A0 : Option Addr) (c0 : Nat) (l0 : List (S48)) (r : List Int) (w : World) (hr0 : Kd.C k48 w A0 l0.length l0) (hc0 : l0.length ≤ c0) (h : impl_EndsOf.f k l0 = some r) :
  Calls Try.prog 13 #[.slice A0 l0.length c0] w fun e w' => ∃ v0_ : Value, e = .returned (v0_) ∧ Kd.R (Kd.int .i64) 3 w' w.heap.size (fun _ => True) v0_ r ∧ Below w.heap.size w w' := by
 have hu48 := Try.underlying48
 have HR0 := Aside0.mk hr0
 have HC0 := Aside0.mk hc0
 clear hr0 hc0
 have HB := Aside0.mk (Below.refl w.heap.size w)
 have H : (impl_EndsOf.l0 k (([] : List Int)) l0 (l0.length : Int) 0) = some r := h
 clear h
 obtain ⟨y552, hy552⟩ : ∃ y_ : List Int, y_ = (([] : List Int)) := ⟨_, rfl⟩
 replace H : (impl_EndsOf.l0 k y552 l0 (l0.length : Int) 0) = some r := by first | (rw [hy552]; with_reducible exact H) | (have H2_ := (Option.bind_some _ _).symm.trans H; rw [hy552]; with_reducible exact H2_) | (have H2_ := (Option.bind_some _ _).symm.trans H; with_reducible exact H2_) | with_reducible exact H | (rw [hy552]; exact H) | exact H
 have Ny552 := Aside0.mk hy552
 clear hy552
 have H' := Aside0.mk H
 clear H
 go_enter Try.func13, Try.ntmps13
 go_wp2_with (first | ((with_reducible refine gate_dst (N := 6) rfl ?_); refine Kd.R_lit (Kd.int .i64) _ 3 ?hg (N := 6) ?hd (xs := ([] : List Int)) (inner := []) (ok := fun _ => True) (okp := fun _ => True) ?hr ?hp (fun _ hk => hk) trivial (Below.refl _ _) (Nat.le_refl _) (by simp) ?_; (case hd => rfl); (case hg => rfl); (case hr => first | (go_simp; done) | (go_simp; rfl)); (case hp => exact (Reps.none _ _)); intro v553 w2 ho3 hb hg_ hnew_; clear hg_ hnew_; (first | rw [← Ny552.out] at ho3 | (simp only [Int.reduceToNat] at ho3; rw [← Ny552.out] at ho3)); have HO554 := Aside0.mk (Kd.R_lower ho3 bls_); replace HB := hbs_ hb; clear hb ho3))
 go_loopg [3, 9] k (fun kq v3 v9 w' => ∃ (x3_1 : List Int) (x9_1 : Int), v9 = .int .i64 x9_1 ∧ Aside0 (impl_EndsOf.l0 kq x3_1 l0 (l0.length : Int) x9_1 = some r) ∧ Aside0 (kq ≤ k) ∧ Aside0 (Kd.R (Kd.int .i64) 3 w' w.heap.size (fun _ => True) v3 x3_1) ∧ Aside0 (Below w.heap.size w w'))
 case atStart => exact ⟨(y552), (0), rf_, H', ⟨Nat.le_refl _⟩, ⟨by (with_reducible repeat (first | apply Kd.R_alloc | apply Kd.R_drewN | apply Kd.R_drew)); exact HO554.out⟩, ⟨bl_⟩⟩
 case round =>
  clear H'
  try clear c1
  try clear p2
  obtain ⟨x3_1, x9_1, rfl, HA, HK1, HO_3, HB⟩ := hrel
  cases gk with
  | zero => exact absurd HA.out (by simp [impl_EndsOf.l0])
  | succ k1 =>
   have H := HA.out
   clear HA
   simp only [impl_EndsOf.l0] at H
   by_cases c4 : x9_1 < (l0.length : Int)
   ·rw [if_pos c4] at H
    have c4b0 : decide (x9_1 < (l0.length : Int)) = true := decide_eq_true c4
    clear c4
    obtain ⟨c5b0, H⟩ := ifd_ H
    obtain ⟨c6b0, H⟩ := ifd_ H
    obtain ⟨t557, A7, H⟩ := bindE_ H
    by_cases c8 : t557 = true
    ·subst c8
     replace H := ite_t_ H
     obtain ⟨c9, H⟩ := ifn_ H
     have LMc9 := Aside0.mk c9
     clear c9
     obtain ⟨y558, hy558⟩ : ∃ y_ : List Int, y_ = (x3_1 ++ [wrap64 (((rd_T48 l0 x9_1).f5) + 1)]) := ⟨_, rfl⟩
     replace H : (impl_EndsOf.l0 k1 y558 l0 (l0.length : Int) (wrap64 (x9_1 + 1))) = some r := by first | (rw [hy558]; with_reducible exact H) | (have H2_ := (Option.bind_some _ _).symm.trans H; rw [hy558]; with_reducible exact H2_) | (have H2_ := (Option.bind_some _ _).symm.trans H; with_reducible exact H2_) | with_reducible exact H | (rw [hy558]; exact H) | exact H
     have Ny558 := Aside0.mk hy558
     clear hy558
     have H' := Aside0.mk H
     clear H
     have p555 : 0 ≤ (x9_1 : Int) := od_
     have q555 : x9_1 < (l0.length : Int) := od_
     obtain ⟨ad555, e555, hx555_0, hx555_1, hx555_2, hx555_3, hx555_4, hx555_5, hx555_6, hx555_7, hx555_8, hx555_9⟩ := at_T48 (Kd.C_below HR0.out HB.out) x9_1 p555 q555
     cases e555
     replace p555 := eq_true p555
     replace q555 := eq_true q555
     go_wp2_with (first | ((with_reducible refine gate_dst (N := 5) rfl ?_); refine box_event ?hg (N := 5) ?hd (cs := #[.int .i64 0, .int .i64 0, .int .i64 0, .int .i64 0, .int .i64 0, .int .i64 0, .int .i64 0, .int .i64 0, .int .i64 0, .int .i64 0]) (t := 48) ?hr ?_; (case hd => rfl); (case hg => rfl); (case hr => first | (go_simp; done) | (go_simp; rfl)); intro gb556 hg w10 hbox hb; replace HO_3 := hob_ HO_3 hb; have BK556 := Aside0.mk (hbox); have GW556 := gs_ hg; have GE556 := gs_ hg; replace HB := hbs_ hb; clear hb hbox hg; have hcz11 := blk_cell BK556.out; have hfz11 := blk_frozen BK556.out) | ((with_reducible refine gate_callee (f := 29) rfl ?_); refine goesC_ (some 14) Try.func29 #[.agg #[.int .i64 ((rd_T48 l0 x9_1).f0), .int .i64 ((rd_T48 l0 x9_1).f1.f0), .int .i64 ((rd_T48 l0 x9_1).f1.f1), .int .i64 ((rd_T48 l0 x9_1).f2), .int .i64 ((rd_T48 l0 x9_1).f3.f0), .int .i64 ((rd_T48 l0 x9_1).f3.f1), .int .i64 ((rd_T48 l0 x9_1).f4.f0), .int .i64 ((rd_T48 l0 x9_1).f4.f1), .int .i64 ((rd_T48 l0 x9_1).f5), .int .i64 ((rd_T48 l0 x9_1).f6)]] ?_; (with_reducible refine (impl_CredOk.calls k1 ((rd_T48 l0 x9_1).f0) ((rd_T48 l0 x9_1).f1.f0) ((rd_T48 l0 x9_1).f1.f1) ((rd_T48 l0 x9_1).f2) ((rd_T48 l0 x9_1).f3.f0) ((rd_T48 l0 x9_1).f3.f1) ((rd_T48 l0 x9_1).f4.f0) ((rd_T48 l0 x9_1).f4.f1) ((rd_T48 l0 x9_1).f5) ((rd_T48 l0 x9_1).f6) true _ A7.out).mono ?_); rintro e w12 ⟨rfl, hb⟩; refine ⟨_, rfl, ?_⟩; replace HO_3 := Aside0.mk (Kd.R_below (by (with_reducible repeat (first | apply Kd.R_alloc | apply Kd.R_drewN | apply Kd.R_drew)); exact (Kd.R_mono (Kd.R_far (p := ⟨gb556, 9, none⟩) (Kd.R_far (p := ⟨gb556, 8, none⟩) (Kd.R_far (p := ⟨gb556, 7, none⟩) (Kd.R_far (p := ⟨gb556, 6, none⟩) (Kd.R_far (p := ⟨gb556, 5, none⟩) (Kd.R_far (p := ⟨gb556, 4, none⟩) (Kd.R_far (p := ⟨gb556, 3, none⟩) (Kd.R_far (p := ⟨gb556, 2, none⟩) (Kd.R_far (p := ⟨gb556, 1, none⟩) (Kd.R_far (p := ⟨gb556, 0, none⟩) (Kd.R_types HO_3.out BK556.out (by decide)) (fun _ hk => hk.2) (.int .i64 ((rd_T48 l0 x9_1).f0))) (fun _ hk => hk.2) (.int .i64 ((rd_T48 l0 x9_1).f1.f0))) (fun _ hk => hk.2) (.int .i64 ((rd_T48 l0 x9_1).f1.f1))) (fun _ hk => hk.2) (.int .i64 ((rd_T48 l0 x9_1).f2))) (fun _ hk => hk.2) (.int .i64 ((rd_T48 l0 x9_1).f3.f0))) (fun _ hk => hk.2) (.int .i64 ((rd_T48 l0 x9_1).f3.f1))) (fun _ hk => hk.2) (.int .i64 ((rd_T48 l0 x9_1).f4.f0))) (fun _ hk => hk.2) (.int .i64 ((rd_T48 l0 x9_1).f4.f1))) (fun _ hk => hk.2) (.int .i64 ((rd_T48 l0 x9_1).f5))) (fun _ hk => hk.2) (.int .i64 ((rd_T48 l0 x9_1).f6))) (fun _ h_ => h_.1))) hb); replace BK556 := Aside0.mk (blk_below (g := gb556) (o := .cells #[.int .i64 ((rd_T48 l0 x9_1).f0), .int .i64 ((rd_T48 l0 x9_1).f1.f0), .int .i64 ((rd_T48 l0 x9_1).f1.f1), .int .i64 ((rd_T48 l0 x9_1).f2), .int .i64 ((rd_T48 l0 x9_1).f3.f0), .int .i64 ((rd_T48 l0 x9_1).f3.f1), .int .i64 ((rd_T48 l0 x9_1).f4.f0), .int .i64 ((rd_T48 l0 x9_1).f4.f1), .int .i64 ((rd_T48 l0 x9_1).f5), .int .i64 ((rd_T48 l0 x9_1).f6)] 48 (0, 0)) (bk_ BK556) hb); replace HB := hbs_ hb; clear hb; have hcz13 := blk_cell BK556.out; have hfz13 := blk_frozen BK556.out) | ((with_reducible refine gate_builtin (b := .append) (xs := #[.tmp 15, .tmp 19]) rfl ?_); at_builtin; refine Kd.R_append (Kd.int .i64) (w0 := w) w.heap.size rfl (.tmp 15) (.tmp 19) 35 3 (.int .i64 0) 8 rfl Try.underlying35 info3 rfl (by decide) (by omega) u3 x3_1 (wrap64 (((rd_T48 l0 x9_1).f5) + 1)) [.int .i64 (wrap64 (((rd_T48 l0 x9_1).f5) + 1))] (fun _ => True) (fun _ => False) rfl rfl ?aP (fun _ hk => hk.elim) ?aF ?aO ?aB ?aS ?aL ?_; (case aP => exact rfl); (case aB => exact bl_); (case aF => exact (fun _ _ => trivial)); (case aO => exact (by (with_reducible repeat (first | apply Kd.R_alloc | apply Kd.R_drewN | apply Kd.R_drew)); exact HO_3.out)); (case aS => exact bls_); (case aL => have := LMc9.out; omega); intro v559 w14 ho hb hg hat; rw [← Ny558.out] at ho; replace BK556 := Aside0.mk (blk_grown (g := gb556) (o := .cells #[.int .i64 ((rd_T48 l0 x9_1).f0), .int .i64 ((rd_T48 l0 x9_1).f1.f0), .int .i64 ((rd_T48 l0 x9_1).f1.f1), .int .i64 ((rd_T48 l0 x9_1).f2), .int .i64 ((rd_T48 l0 x9_1).f3.f0), .int .i64 ((rd_T48 l0 x9_1).f3.f1), .int .i64 ((rd_T48 l0 x9_1).f4.f0), .int .i64 ((rd_T48 l0 x9_1).f4.f1), .int .i64 ((rd_T48 l0 x9_1).f5), .int .i64 ((rd_T48 l0 x9_1).f6)] 48 (0, 0)) (bk_ BK556) hg (Kd.R_ne HO_3.out BK556.out (by decide))); replace HB := Aside0.mk (hb); have HO560 := Aside0.mk (ho); clear HO_3; clear ho hb hg hat))
     go_roundg k1
     case measure => have := HK1.out; omega
     case rel => exact ⟨(y558), (wrap64 (x9_1 + 1)), rf_, H', ⟨by have := HK1.out; omega⟩, ⟨by (with_reducible repeat (first | apply Kd.R_alloc | apply Kd.R_drewN | apply Kd.R_drew)); exact HO560.out⟩, ⟨bl_⟩⟩
    ·replace c8 := Bool.eq_false_iff.mpr c8
     subst c8
     replace H := ite_f_ H
     have H' := Aside0.mk H
     clear H
     have p555 : 0 ≤ (x9_1 : Int) := od_
     have q555 : x9_1 < (l0.length : Int) := od_
     obtain ⟨ad555, e555, hx555_0, hx555_1, hx555_2, hx555_3, hx555_4, hx555_5, hx555_6, hx555_7, hx555_8, hx555_9⟩ := at_T48 (Kd.C_below HR0.out HB.out) x9_1 p555 q555
     cases e555
     replace p555 := eq_true p555
     replace q555 := eq_true q555
     go_wp2_with (first | ((with_reducible refine gate_dst (N := 5) rfl ?_); refine box_event ?hg (N := 5) ?hd (cs := #[.int .i64 0, .int .i64 0, .int .i64 0, .int .i64 0, .int .i64 0, .int .i64 0, .int .i64 0, .int .i64 0, .int .i64 0, .int .i64 0]) (t := 48) ?hr ?_; (case hd => rfl); (case hg => rfl); (case hr => first | (go_simp; done) | (go_simp; rfl)); intro gb556 hg w15 hbox hb; replace HO_3 := hob_ HO_3 hb; have BK556 := Aside0.mk (hbox); have GW556 := gs_ hg; have GE556 := gs_ hg; replace HB := hbs_ hb; clear hb hbox hg; have hcz16 := blk_cell BK556.out; have hfz16 := blk_frozen BK556.out) | ((with_reducible refine gate_callee (f := 29) rfl ?_); refine goesC_ (some 14) Try.func29 #[.agg #[.int .i64 ((rd_T48 l0 x9_1).f0), .int .i64 ((rd_T48 l0 x9_1).f1.f0), .int .i64 ((rd_T48 l0 x9_1).f1.f1), .int .i64 ((rd_T48 l0 x9_1).f2), .int .i64 ((rd_T48 l0 x9_1).f3.f0), .int .i64 ((rd_T48 l0 x9_1).f3.f1), .int .i64 ((rd_T48 l0 x9_1).f4.f0), .int .i64 ((rd_T48 l0 x9_1).f4.f1), .int .i64 ((rd_T48 l0 x9_1).f5), .int .i64 ((rd_T48 l0 x9_1).f6)]] ?_; (with_reducible refine (impl_CredOk.calls k1 ((rd_T48 l0 x9_1).f0) ((rd_T48 l0 x9_1).f1.f0) ((rd_T48 l0 x9_1).f1.f1) ((rd_T48 l0 x9_1).f2) ((rd_T48 l0 x9_1).f3.f0) ((rd_T48 l0 x9_1).f3.f1) ((rd_T48 l0 x9_1).f4.f0) ((rd_T48 l0 x9_1).f4.f1) ((rd_T48 l0 x9_1).f5) ((rd_T48 l0 x9_1).f6) false _ A7.out).mono ?_); rintro e w17 ⟨rfl, hb⟩; refine ⟨_, rfl, ?_⟩; replace HO_3 := Aside0.mk (Kd.R_below (by (with_reducible repeat (first | apply Kd.R_alloc | apply Kd.R_drewN | apply Kd.R_drew)); exact (Kd.R_mono (Kd.R_far (p := ⟨gb556, 9, none⟩) (Kd.R_far (p := ⟨gb556, 8, none⟩) (Kd.R_far (p := ⟨gb556, 7, none⟩) (Kd.R_far (p := ⟨gb556, 6, none⟩) (Kd.R_far (p := ⟨gb556, 5, none⟩) (Kd.R_far (p := ⟨gb556, 4, none⟩) (Kd.R_far (p := ⟨gb556, 3, none⟩) (Kd.R_far (p := ⟨gb556, 2, none⟩) (Kd.R_far (p := ⟨gb556, 1, none⟩) (Kd.R_far (p := ⟨gb556, 0, none⟩) (Kd.R_types HO_3.out BK556.out (by decide)) (fun _ hk => hk.2) (.int .i64 ((rd_T48 l0 x9_1).f0))) (fun _ hk => hk.2) (.int .i64 ((rd_T48 l0 x9_1).f1.f0))) (fun _ hk => hk.2) (.int .i64 ((rd_T48 l0 x9_1).f1.f1))) (fun _ hk => hk.2) (.int .i64 ((rd_T48 l0 x9_1).f2))) (fun _ hk => hk.2) (.int .i64 ((rd_T48 l0 x9_1).f3.f0))) (fun _ hk => hk.2) (.int .i64 ((rd_T48 l0 x9_1).f3.f1))) (fun _ hk => hk.2) (.int .i64 ((rd_T48 l0 x9_1).f4.f0))) (fun _ hk => hk.2) (.int .i64 ((rd_T48 l0 x9_1).f4.f1))) (fun _ hk => hk.2) (.int .i64 ((rd_T48 l0 x9_1).f5))) (fun _ hk => hk.2) (.int .i64 ((rd_T48 l0 x9_1).f6))) (fun _ h_ => h_.1))) hb); replace BK556 := Aside0.mk (blk_below (g := gb556) (o := .cells #[.int .i64 ((rd_T48 l0 x9_1).f0), .int .i64 ((rd_T48 l0 x9_1).f1.f0), .int .i64 ((rd_T48 l0 x9_1).f1.f1), .int .i64 ((rd_T48 l0 x9_1).f2), .int .i64 ((rd_T48 l0 x9_1).f3.f0), .int .i64 ((rd_T48 l0 x9_1).f3.f1), .int .i64 ((rd_T48 l0 x9_1).f4.f0), .int .i64 ((rd_T48 l0 x9_1).f4.f1), .int .i64 ((rd_T48 l0 x9_1).f5), .int .i64 ((rd_T48 l0 x9_1).f6)] 48 (0, 0)) (bk_ BK556) hb); replace HB := hbs_ hb; clear hb))
     go_roundg k1
     case measure => have := HK1.out; omega
     case rel => exact ⟨(x3_1), (wrap64 (x9_1 + 1)), rf_, H', ⟨by have := HK1.out; omega⟩, ⟨by (with_reducible repeat (first | apply Kd.R_alloc | apply Kd.R_drewN | apply Kd.R_drew)); exact HO_3.out⟩, ⟨bl_⟩⟩
   ·rw [if_neg c4] at H
    have c4b0 : decide (x9_1 < (l0.length : Int)) = false := decide_eq_false c4
    clear c4
    obtain ⟨t561, A18, H⟩ := bindE_ H
    obtain ⟨t562, A19, H⟩ := bindE_ H
    obtain rfl := Option.some.inj H
    obtain ⟨Ao20, co20, eo20⟩ := Kd.R_slice HO_3.out
    subst eo20
    go_wp2_with (first | ((with_reducible refine gate_callee (f := 30) rfl ?_); refine goesC_ (some 23) Try.func30 #[.slice Ao20 x3_1.length co20] ?_; (with_reducible refine (slices_Sort_int_int.calls (fun k_ => some k_ = (.slice Ao20 x3_1.length co20 : Value).ownBlock) (.slice Ao20 x3_1.length co20) x3_1 t561 w _ ?side1 ?side2 A18.out).mono ?_); (case side1 => repeat (first | (with_reducible first | exact HB.out | apply below_alloc | apply pw_below_drewN | apply below_drew1) | exact HB.out)); (case side2 => exact Kd.R_tight rfl HO_3.out); rintro e w21 ⟨rfl, hy0, hb, hkp⟩; refine ⟨_, rfl, ?_⟩; replace HO_3 := Aside0.mk (Kd.R_reok rfl hy0 (fun k_ e_ => HO_3.out.1 k_ e_)); replace HB := Aside0.mk (hb); (try clear hb); (try clear hkp); (try clear hy0)) | ((with_reducible refine gate_callee (f := 31) rfl ?_); refine goesC_ (some 25) Try.func31 #[.slice Ao20 x3_1.length co20] ?_; (with_reducible refine (slices_Compact_int_int.calls (fun k_ => some k_ = (.slice Ao20 x3_1.length co20 : Value).ownBlock) (.slice Ao20 x3_1.length co20) t561 t562 w _ ?side1 ?side2 A19.out).mono ?_); (case side1 => repeat (first | (with_reducible first | exact HB.out | apply below_alloc | apply pw_below_drewN | apply below_drew1) | exact HB.out)); (case side2 => exact Kd.R_tight rfl HO_3.out); rintro e w22 ⟨v563, rfl, ho0, hb, hkp⟩; refine ⟨_, rfl, ?_⟩; have HO564 := Aside0.mk (Kd.R_mono (ok' := fun k_ => True) ho0 (fun k_ hk_ => trivial)); replace HB := Aside0.mk (hb); clear HO_3; (try clear hb); (try clear hkp); (try clear ho0)))
    go_ret
    exact ⟨_, eq_, by (with_reducible repeat (first | apply Kd.R_alloc | apply Kd.R_drewN | apply Kd.R_drew)); exact HO564.out, bl_⟩
def spec_l08Has.l0 : Nat → List Int → Int → Int → Option (Bool)
 | 0, _, _, _ => none
 | k + 1, x0, x1, x5 => if x5 < (x0.length : Int) then (if 0 ≤ x5 then (if (rd x0 x5) = x1 then (some true) else (spec_l08Has.l0 k x0 x1 (wrap64 (x5 + 1)))) else (none)) else (some false)
def spec_l08Has.f (k : Nat) (l0 : List Int) (a1 : Int) : Option (Bool) := spec_l08Has.l0 k l0 a1 0
set_option maxHeartbeats 8000000 in
set_option maxRecDepth 100000 in
theorem spec_l08Has.calls (k : Nat) (A0 : Option Addr) (c0 : Nat) (l0 : List Int) (a1 : Int) (r : Bool) (w : World) (hr0 : Kd.C (Kd.int .i64) w A0 l0.length l0) (hc0 : l0.length ≤ c0) (h : spec_l08Has.f k l0 a1 = some r) :
  Calls Try.prog 33 #[.slice A0 l0.length c0, .int .i64 a1] w fun e w' => e = .returned (.bool r) ∧ Drawn0 w w' := by
 have HR0 := Aside0.mk hr0
 have HC0 := Aside0.mk hc0
 clear hr0 hc0
 have H : (spec_l08Has.l0 k l0 a1 0) = some r := h
 clear h
 have H' := Aside0.mk H
 clear H
 go_enter Try.func33, Try.ntmps33
 go_wp2
 go_loopg [5] k (fun kq v5 w' => ∃ (x5_1 : Int), v5 = .int .i64 x5_1 ∧ Aside0 (spec_l08Has.l0 kq l0 a1 x5_1 = some r) ∧ Aside0 (kq ≤ k) ∧ Drawn0 w w')
 case atStart => exact ⟨(0), rf_, H', ⟨Nat.le_refl _⟩, by repeat (first | exact Drawn0.refl _ | apply Drawn0.step)⟩
 case round =>
  clear H'
  try clear p2
  obtain ⟨x5_1, rfl, HA, HK1, ⟨m1, rfl⟩⟩ := hrel
  cases gk with
  | zero => exact absurd HA.out (by simp [spec_l08Has.l0])
  | succ k1 =>
   have H := HA.out
   clear HA
   simp only [spec_l08Has.l0] at H
   by_cases c3 : x5_1 < (l0.length : Int)
   ·rw [if_pos c3] at H
    have c3b0 : decide (x5_1 < (l0.length : Int)) = true := decide_eq_true c3
    clear c3
    obtain ⟨c4b0, H⟩ := ifd_ H
    by_cases c5 : (rd l0 x5_1) = a1
    ·rw [if_pos c5] at H
     have c5b0 : ((rd l0 x5_1) == a1) = true := beq_iff_eq.mpr c5
     have c5b1 : ((rd l0 x5_1) != a1) = false := bne_eq_false_iff_eq.mpr c5
     clear c5
     obtain rfl := Option.some.inj H
     have p565 : 0 ≤ (x5_1 : Int) := od_
     have q565 : x5_1 < (l0.length : Int) := od_
     obtain ⟨ad565, e565, hx565_0⟩ := Kd.at_int HR0.out x5_1 p565 q565
     cases e565
     replace p565 := eq_true p565
     replace q565 := eq_true q565
     go_wp2
     go_ret
     exact ⟨by first | rfl | (simp; done) | (simp [*]; done), by repeat (first | exact Drawn0.refl _ | apply Drawn0.step)⟩
    ·rw [if_neg c5] at H
     have c5b0 : ((rd l0 x5_1) == a1) = false := beq_eq_false_iff_ne.mpr c5
     have c5b1 : ((rd l0 x5_1) != a1) = true := bne_iff_ne.mpr c5
     have H' := Aside0.mk H
     clear H
     have p565 : 0 ≤ (x5_1 : Int) := od_
     have q565 : x5_1 < (l0.length : Int) := od_
     obtain ⟨ad565, e565, hx565_0⟩ := Kd.at_int HR0.out x5_1 p565 q565
     cases e565
     replace p565 := eq_true p565
     replace q565 := eq_true q565
     go_wp2
     go_roundg k1
     case measure => have := HK1.out; omega
     case rel => exact ⟨(wrap64 (x5_1 + 1)), rf_, H', ⟨by have := HK1.out; omega⟩, by repeat (first | exact Drawn0.refl _ | apply Drawn0.step)⟩
   ·rw [if_neg c3] at H
    have c3b0 : decide (x5_1 < (l0.length : Int)) = false := decide_eq_false c3
    clear c3
    obtain rfl := Option.some.inj H
    go_wp2
    go_ret
    exact ⟨by first | rfl | (simp; done) | (simp [*]; done), by repeat (first | exact Drawn0.refl _ | apply Drawn0.step)⟩
mutual
def spec_EndsOf.l0 : Nat → List (S48) → List Int → Int → Option (List Int)
 | 0, _, _, _ => none
 | k + 1, x0, x3, x4 => if x4 < (x0.length : Int) then (if 0 ≤ x4 then ((spec_CredOk.f k ((rd_T48 x0 x4).f0) ((rd_T48 x0 x4).f1.f0) ((rd_T48 x0 x4).f1.f1) ((rd_T48 x0 x4).f2) ((rd_T48 x0 x4).f3.f0) ((rd_T48 x0 x4).f3.f1) ((rd_T48 x0 x4).f4.f0) ((rd_T48 x0 x4).f4.f1) ((rd_T48 x0 x4).f5) ((rd_T48 x0 x4).f6)).bind fun t571 => (if t571 = true then ((spec_l08Has.f k x3 (wrap64 (((rd_T48 x0 x4).f5) + 1))).bind fun t572 => (spec_EndsOf.j1 k x0 x3 x4 (wrap64 (((rd_T48 x0 x4).f5) + 1)) t572)) else (spec_EndsOf.j1 k x0 x3 x4 (wrap64 (((rd_T48 x0 x4).f5) + 1)) true))) else (none)) else (some x3)
def spec_EndsOf.j1 : Nat → List (S48) → List Int → Int → Int → Bool → Option (List Int)
 | 0, _, _, _, _, _ => none
 | k + 1, x0, x3, x4, x5, x32 => if x32 = true then (spec_EndsOf.l0 k x0 x3 (wrap64 (x4 + 1))) else (spec_EndsOf.l1 k x0 x3 x4 x5 (([] : List Int)) false 0)
def spec_EndsOf.l1 : Nat → List (S48) → List Int → Int → Int → List Int → Bool → Int → Option (List Int)
 | 0, _, _, _, _, _, _, _ => none
 | k + 1, x0, x3, x4, x5, x6, x7, x8 => if x8 < (x3.length : Int) then (if x7 = true then (if 0 ≤ x8 then (if x6.length < 17592186044416 then (spec_EndsOf.l1 k x0 x3 x4 x5 (x6 ++ [rd x3 x8]) x7 (wrap64 (x8 + 1))) else (none)) else (none)) else (if 0 ≤ x8 then (if x5 < (rd x3 x8) then (if x6.length < 17592186044416 then ((some (x6 ++ [x5] : List Int)).bind fun y581 => (if y581.length < 17592186044416 then (spec_EndsOf.l1 k x0 x3 x4 x5 (y581 ++ [rd x3 x8]) true (wrap64 (x8 + 1))) else (none))) else (none)) else (if x6.length < 17592186044416 then (spec_EndsOf.l1 k x0 x3 x4 x5 (x6 ++ [rd x3 x8]) x7 (wrap64 (x8 + 1))) else (none))) else (none))) else (if x7 = true then (spec_EndsOf.l0 k x0 x6 (wrap64 (x4 + 1))) else (if x6.length < 17592186044416 then (spec_EndsOf.l0 k x0 (x6 ++ [x5]) (wrap64 (x4 + 1))) else (none)))
end
def spec_EndsOf.f (k : Nat) (l0 : List (S48)) : Option (List Int) := spec_EndsOf.l0 k l0 (([] : List Int)) 0
set_option maxHeartbeats 8000000 in
set_option maxRecDepth 100000 in
theorem spec_EndsOf.calls (k : Nat) (A0 : Option Addr) (c0 : Nat) (l0 : List (S48)) (r : List Int) (w : World) (hr0 : Kd.C k48 w A0 l0.length l0) (hc0 : l0.length ≤ c0) (h : spec_EndsOf.f k l0 = some r) :
  Calls Try.prog 14 #[.slice A0 l0.length c0] w fun e w' => ∃ v0_ : Value, e = .returned (v0_) ∧ Kd.R (Kd.int .i64) 3 w' w.heap.size (fun _ => True) v0_ r ∧ Below w.heap.size w w' := by
 have hu48 := Try.underlying48
 have HR0 := Aside0.mk hr0
 have HC0 := Aside0.mk hc0
 clear hr0 hc0
 have HB := Aside0.mk (Below.refl w.heap.size w)
 have H : (spec_EndsOf.l0 k l0 (([] : List Int)) 0) = some r := h
 clear h
 obtain ⟨y566, hy566⟩ : ∃ y_ : List Int, y_ = (([] : List Int)) := ⟨_, rfl⟩
 replace H : (spec_EndsOf.l0 k l0 y566 0) = some r := by first | (rw [hy566]; with_reducible exact H) | (have H2_ := (Option.bind_some _ _).symm.trans H; rw [hy566]; with_reducible exact H2_) | (have H2_ := (Option.bind_some _ _).symm.trans H; with_reducible exact H2_) | with_reducible exact H | (rw [hy566]; exact H) | exact H
 have Ny566 := Aside0.mk hy566
 clear hy566
 have H' := Aside0.mk H
 clear H
 go_enter Try.func14, Try.ntmps14
 go_wp2_with (first | ((with_reducible refine gate_dst (N := 9) rfl ?_); refine Kd.R_lit (Kd.int .i64) _ 3 ?hg (N := 9) ?hd (xs := ([] : List Int)) (inner := []) (ok := fun _ => True) (okp := fun _ => True) ?hr ?hp (fun _ hk => hk) trivial (Below.refl _ _) (Nat.le_refl _) (by simp) ?_; (case hd => rfl); (case hg => rfl); (case hr => first | (go_simp; done) | (go_simp; rfl)); (case hp => exact (Reps.none _ _)); intro v567 w2 ho3 hb hg_ hnew_; clear hg_ hnew_; (first | rw [← Ny566.out] at ho3 | (simp only [Int.reduceToNat] at ho3; rw [← Ny566.out] at ho3)); have HO568 := Aside0.mk (Kd.R_lower ho3 bls_); replace HB := hbs_ hb; clear hb ho3))
 go_loopg [3, 4] k (fun kq v3 v4 w' => ∃ (x3_1 : List Int) (x4_1 : Int), v4 = .int .i64 x4_1 ∧ Aside0 (spec_EndsOf.l0 kq l0 x3_1 x4_1 = some r) ∧ Aside0 (kq ≤ k) ∧ Aside0 (Kd.R (Kd.int .i64) 3 w' w.heap.size (fun _ => True) v3 x3_1) ∧ Aside0 (Below w.heap.size w w'))
 case atStart => exact ⟨(y566), (0), rf_, H', ⟨Nat.le_refl _⟩, ⟨by (with_reducible repeat (first | apply Kd.R_alloc | apply Kd.R_drewN | apply Kd.R_drew)); exact HO568.out⟩, ⟨bl_⟩⟩
 case round =>
  clear H'
  try clear c1
  try clear p2
  obtain ⟨x3_1, x4_1, rfl, HA, HK1, HO_3, HB⟩ := hrel
  cases gk with
  | zero => exact absurd HA.out (by simp [spec_EndsOf.l0])
  | succ k1 =>
   have H := HA.out
   clear HA
   simp only [spec_EndsOf.l0] at H
   by_cases c4 : x4_1 < (l0.length : Int)
   ·rw [if_pos c4] at H
    have c4b0 : decide (x4_1 < (l0.length : Int)) = true := decide_eq_true c4
    clear c4
    obtain ⟨c5b0, H⟩ := ifd_ H
    have HC6 := Aside0.mk H
    clear H
    have p569 : 0 ≤ (x4_1 : Int) := od_
    have q569 : x4_1 < (l0.length : Int) := od_
    obtain ⟨ad569, e569, hx569_0, hx569_1, hx569_2, hx569_3, hx569_4, hx569_5, hx569_6, hx569_7, hx569_8, hx569_9⟩ := at_T48 (Kd.C_below HR0.out HB.out) x4_1 p569 q569
    cases e569
    replace p569 := eq_true p569
    replace q569 := eq_true q569
    go_upto_region 6 with (fail)
    go_cut [32] (fun v32 wc => ∃ (kq : Nat) (x32_5 : Bool), v32 = .bool x32_5 ∧ Aside0 (spec_EndsOf.j1 kq l0 x3_1 x4_1 (wrap64 (((rd_T48 l0 x4_1).f5) + 1)) x32_5 = some r) ∧ Aside0 (kq ≤ k1) ∧ Aside0 (Kd.R (Kd.int .i64) 3 wc w.heap.size (fun _ => True) u3 x3_1) ∧ Aside0 (Below w.heap.size w wc))
    case first =>
     have H := HC6.out
     clear HC6
     obtain ⟨t571, A7, H⟩ := bindE_ H
     by_cases c8 : t571 = true
     ·subst c8
      replace H := ite_t_ H
      obtain ⟨t572, A9, H⟩ := bindE_ H
      have H' := Aside0.mk H
      clear H
      have p570 : 0 ≤ (x4_1 : Int) := od_
      have q570 : x4_1 < (l0.length : Int) := od_
      obtain ⟨ad570, e570, hx570_0, hx570_1, hx570_2, hx570_3, hx570_4, hx570_5, hx570_6, hx570_7, hx570_8, hx570_9⟩ := at_T48 HR0.out x4_1 p570 q570
      obtain rfl : ad569 = ad570 := (by injection e570)
      replace hx570_0 := cb_ HB hx570_0
      replace hx570_1 := cb_ HB hx570_1
      replace hx570_2 := cb_ HB hx570_2
      replace hx570_3 := cb_ HB hx570_3
      replace hx570_4 := cb_ HB hx570_4
      replace hx570_5 := cb_ HB hx570_5
      replace hx570_6 := cb_ HB hx570_6
      replace hx570_7 := cb_ HB hx570_7
      replace hx570_8 := cb_ HB hx570_8
      replace hx570_9 := cb_ HB hx570_9
      replace p570 := eq_true p570
      replace q570 := eq_true q570
      go_wp2_with (first | ((with_reducible refine gate_callee (f := 32) rfl ?_); refine goesC_ (some 26) Try.func32 #[.agg #[.int .i64 ((rd_T48 l0 x4_1).f0), .int .i64 ((rd_T48 l0 x4_1).f1.f0), .int .i64 ((rd_T48 l0 x4_1).f1.f1), .int .i64 ((rd_T48 l0 x4_1).f2), .int .i64 ((rd_T48 l0 x4_1).f3.f0), .int .i64 ((rd_T48 l0 x4_1).f3.f1), .int .i64 ((rd_T48 l0 x4_1).f4.f0), .int .i64 ((rd_T48 l0 x4_1).f4.f1), .int .i64 ((rd_T48 l0 x4_1).f5), .int .i64 ((rd_T48 l0 x4_1).f6)]] ?_; (with_reducible refine (spec_CredOk.calls k1 ((rd_T48 l0 x4_1).f0) ((rd_T48 l0 x4_1).f1.f0) ((rd_T48 l0 x4_1).f1.f1) ((rd_T48 l0 x4_1).f2) ((rd_T48 l0 x4_1).f3.f0) ((rd_T48 l0 x4_1).f3.f1) ((rd_T48 l0 x4_1).f4.f0) ((rd_T48 l0 x4_1).f4.f1) ((rd_T48 l0 x4_1).f5) ((rd_T48 l0 x4_1).f6) true _ A7.out).mono ?_); rintro e w10 ⟨rfl, hb⟩; refine ⟨_, rfl, ?_⟩; replace HO_3 := hob_ HO_3 hb; replace HB := hbs_ hb; clear hb; obtain ⟨Ao11, co11, eo11⟩ := Kd.R_slice HO_3.out; subst eo11) | (go_at_call 33; (with_reducible refine (spec_l08Has.calls k1 _ _ x3_1 (wrap64 (((rd_T48 l0 x4_1).f5) + 1)) t572 _ ?side1 ?side2 A9.out).mono ?_); (case side1 => repeat (first | exact (Kd.R_reads' HO_3.out).2.2 | (with_reducible refine Kd.C_alloc ?_ _) | (with_reducible refine Kd.C_drewN ?_ _) | (with_reducible refine Kd.C_drew ?_))); (case side2 => exact (Kd.R_reads' HO_3.out).2.1); rintro e w' ⟨rfl, ⟨nd, rfl⟩⟩))
      go_meet
      case rel => exact ⟨_, (t572), rf_, H', ⟨by have := HK1.out; first | omega | exact Nat.le_refl _⟩, ⟨by (with_reducible repeat (first | apply Kd.R_alloc | apply Kd.R_drewN | apply Kd.R_drew)); exact HO_3.out⟩, ⟨bl_⟩⟩
     ·replace c8 := Bool.eq_false_iff.mpr c8
      subst c8
      replace H := ite_f_ H
      have H' := Aside0.mk H
      clear H
      have p570 : 0 ≤ (x4_1 : Int) := od_
      have q570 : x4_1 < (l0.length : Int) := od_
      obtain ⟨ad570, e570, hx570_0, hx570_1, hx570_2, hx570_3, hx570_4, hx570_5, hx570_6, hx570_7, hx570_8, hx570_9⟩ := at_T48 HR0.out x4_1 p570 q570
      obtain rfl : ad569 = ad570 := (by injection e570)
      replace hx570_0 := cb_ HB hx570_0
      replace hx570_1 := cb_ HB hx570_1
      replace hx570_2 := cb_ HB hx570_2
      replace hx570_3 := cb_ HB hx570_3
      replace hx570_4 := cb_ HB hx570_4
      replace hx570_5 := cb_ HB hx570_5
      replace hx570_6 := cb_ HB hx570_6
      replace hx570_7 := cb_ HB hx570_7
      replace hx570_8 := cb_ HB hx570_8
      replace hx570_9 := cb_ HB hx570_9
      replace p570 := eq_true p570
      replace q570 := eq_true q570
      go_wp2_with (first | ((with_reducible refine gate_callee (f := 32) rfl ?_); refine goesC_ (some 26) Try.func32 #[.agg #[.int .i64 ((rd_T48 l0 x4_1).f0), .int .i64 ((rd_T48 l0 x4_1).f1.f0), .int .i64 ((rd_T48 l0 x4_1).f1.f1), .int .i64 ((rd_T48 l0 x4_1).f2), .int .i64 ((rd_T48 l0 x4_1).f3.f0), .int .i64 ((rd_T48 l0 x4_1).f3.f1), .int .i64 ((rd_T48 l0 x4_1).f4.f0), .int .i64 ((rd_T48 l0 x4_1).f4.f1), .int .i64 ((rd_T48 l0 x4_1).f5), .int .i64 ((rd_T48 l0 x4_1).f6)]] ?_; (with_reducible refine (spec_CredOk.calls k1 ((rd_T48 l0 x4_1).f0) ((rd_T48 l0 x4_1).f1.f0) ((rd_T48 l0 x4_1).f1.f1) ((rd_T48 l0 x4_1).f2) ((rd_T48 l0 x4_1).f3.f0) ((rd_T48 l0 x4_1).f3.f1) ((rd_T48 l0 x4_1).f4.f0) ((rd_T48 l0 x4_1).f4.f1) ((rd_T48 l0 x4_1).f5) ((rd_T48 l0 x4_1).f6) false _ A7.out).mono ?_); rintro e w12 ⟨rfl, hb⟩; refine ⟨_, rfl, ?_⟩; replace HO_3 := hob_ HO_3 hb; replace HB := hbs_ hb; clear hb))
      go_meet
      case rel => exact ⟨_, (true), rf_, H', ⟨by have := HK1.out; first | omega | exact Nat.le_refl _⟩, ⟨by (with_reducible repeat (first | apply Kd.R_alloc | apply Kd.R_drewN | apply Kd.R_drew)); exact HO_3.out⟩, ⟨bl_⟩⟩
    case rest =>
     clear HC6
     try clear c1
     try clear p2
     try clear c3
     try clear c4
     try clear c4b0
     try clear c5
     try clear c5b0
     try clear p5
     try clear q5
     try clear hx5
     try clear p6
     try clear c8
     try clear hx569_0
     try clear hx569_1
     try clear hx569_2
     try clear hx569_3
     try clear hx569_4
     try clear hx569_5
     try clear hx569_6
     try clear hx569_7
     try clear hx569_8
     try clear hx569_9
     try clear hx570_0
     try clear hx570_1
     try clear hx570_2
     try clear hx570_3
     try clear hx570_4
     try clear hx570_5
     try clear hx570_6
     try clear hx570_7
     try clear hx570_8
     try clear hx570_9
     try clear p2
     try clear p569
     try clear p570
     try clear q569
     try clear q570
     obtain ⟨kq, x32_5, rfl, HA, HJ5, HO_3, HB⟩ := hcut
     cases kq with
     | zero => exact absurd HA.out (by simp [spec_EndsOf.j1])
     | succ kj5 =>
      have H := HA.out
      clear HA
      simp only [spec_EndsOf.j1] at H
      by_cases c13 : x32_5 = true
      ·subst c13
       replace H := ite_t_ H
       have H' := Aside0.mk H
       clear H
       go_wp2
       go_roundg kj5
       case measure => have := HK1.out; have := HJ5.out; omega
       case rel => exact ⟨(x3_1), (wrap64 (x4_1 + 1)), rf_, H', ⟨by have := HK1.out; have := HJ5.out; omega⟩, ⟨by (with_reducible repeat (first | apply Kd.R_alloc | apply Kd.R_drewN | apply Kd.R_drew)); exact HO_3.out⟩, ⟨bl_⟩⟩
      ·replace c13 := Bool.eq_false_iff.mpr c13
       subst c13
       replace H := ite_f_ H
       obtain ⟨y573, hy573⟩ : ∃ y_ : List Int, y_ = (([] : List Int)) := ⟨_, rfl⟩
       replace H : (spec_EndsOf.l1 kj5 l0 x3_1 x4_1 (wrap64 (((rd_T48 l0 x4_1).f5) + 1)) y573 false 0) = some r := by first | (rw [hy573]; with_reducible exact H) | (have H2_ := (Option.bind_some _ _).symm.trans H; rw [hy573]; with_reducible exact H2_) | (have H2_ := (Option.bind_some _ _).symm.trans H; with_reducible exact H2_) | with_reducible exact H | (rw [hy573]; exact H) | exact H
       have Ny573 := Aside0.mk hy573
       clear hy573
       have H' := Aside0.mk H
       clear H
       go_wp2_with (first | ((with_reducible refine gate_dst (N := 33) rfl ?_); refine Kd.R_lit (Kd.int .i64) _ 3 ?hg (N := 33) ?hd (xs := ([] : List Int)) (inner := []) (ok := fun _ => True) (okp := fun _ => True) ?hr ?hp (fun _ hk => hk) trivial (Below.refl _ _) (Nat.le_refl _) (by simp) ?_; (case hd => rfl); (case hg => rfl); (case hr => first | (go_simp; done) | (go_simp; rfl)); (case hp => exact (Reps.none _ _)); intro v574 w14 ho15 hb hg_ hnew_; clear hg_ hnew_; (first | rw [← Ny573.out] at ho15 | (simp only [Int.reduceToNat] at ho15; rw [← Ny573.out] at ho15)); have HO575 := Aside0.mk (Kd.R_lower (Kd.R_new' ho15 (Kd.R_lt (by (with_reducible repeat (first | apply Kd.R_alloc | apply Kd.R_drewN | apply Kd.R_drew)); exact HO_3.out))) bls_); replace HO_3 := Aside0.mk (Kd.R_elder' (by (with_reducible repeat (first | apply Kd.R_alloc | apply Kd.R_drewN | apply Kd.R_drew)); exact HO_3.out) (Kd.R_base ho15) hb); replace HB := hbs_ hb; clear hb ho15))
       go_loopg [6, 7, 8] kj5 (fun kq v6 v7 v8 w' => ∃ (x6_3 : List Int) (x7_3 : Bool) (x8_3 : Int), v7 = .bool x7_3 ∧ v8 = .int .i64 x8_3 ∧ Aside0 (spec_EndsOf.l1 kq l0 x3_1 x4_1 (wrap64 (((rd_T48 l0 x4_1).f5) + 1)) x6_3 x7_3 x8_3 = some r) ∧ Aside0 (kq ≤ kj5) ∧ Aside0 (Kd.R (Kd.int .i64) 3 w' w.heap.size (fun k_ => some k_ ≠ (v6 : Value).ownBlock) u3 x3_1) ∧ Aside0 (Kd.R (Kd.int .i64) 3 w' w.heap.size (fun k_ => some k_ ≠ (u3 : Value).ownBlock) v6 x6_3) ∧ Aside0 (Below w.heap.size w w'))
       case atStart => exact ⟨(y573), (false), (0), rf_, rf_, H', ⟨Nat.le_refl _⟩, ⟨by (with_reducible repeat (first | apply Kd.R_alloc | apply Kd.R_drewN | apply Kd.R_drew)); exact Kd.R_mono HO_3.out (fun _ hk => hk.2)⟩, ⟨by (with_reducible repeat (first | apply Kd.R_alloc | apply Kd.R_drewN | apply Kd.R_drew)); exact Kd.R_mono HO575.out (fun _ hk => hk.2)⟩, ⟨bl_⟩⟩
       case round =>
        clear H'
        try clear c1
        try clear p2
        try clear c3
        try clear c4
        try clear c4b0
        try clear c5
        try clear c5b0
        try clear p5
        try clear q5
        try clear hx5
        try clear p6
        try clear c8
        try clear c13
        try clear c14
        try clear hx569_0
        try clear hx569_1
        try clear hx569_2
        try clear hx569_3
        try clear hx569_4
        try clear hx569_5
        try clear hx569_6
        try clear hx569_7
        try clear hx569_8
        try clear hx569_9
        try clear hx570_0
        try clear hx570_1
        try clear hx570_2
        try clear hx570_3
        try clear hx570_4
        try clear hx570_5
        try clear hx570_6
        try clear hx570_7
        try clear hx570_8
        try clear hx570_9
        try clear p2
        try clear p5
        try clear p569
        try clear p570
        try clear p6
        try clear q5
        try clear q569
        try clear q570
        obtain ⟨x6_3, x7_3, x8_3, rfl, rfl, HA, HK3, HO_3, HO_6, HB⟩ := hrel
        cases gk with
        | zero => exact absurd HA.out (by simp [spec_EndsOf.l1])
        | succ k3 =>
         have H := HA.out
         clear HA
         simp only [spec_EndsOf.l1] at H
         by_cases c16 : x8_3 < (x3_1.length : Int)
         ·rw [if_pos c16] at H
          have c16b0 : decide (x8_3 < (x3_1.length : Int)) = true := decide_eq_true c16
          clear c16
          by_cases c17 : x7_3 = true
          ·subst c17
           replace H := ite_t_ H
           obtain ⟨c18b0, H⟩ := ifd_ H
           obtain ⟨c19, H⟩ := ifn_ H
           have LMc19 := Aside0.mk c19
           clear c19
           obtain ⟨y577, hy577⟩ : ∃ y_ : List Int, y_ = (x6_3 ++ [rd x3_1 x8_3]) := ⟨_, rfl⟩
           replace H : (spec_EndsOf.l1 k3 l0 x3_1 x4_1 (wrap64 (((rd_T48 l0 x4_1).f5) + 1)) y577 true (wrap64 (x8_3 + 1))) = some r := by first | (rw [hy577]; with_reducible exact H) | (have H2_ := (Option.bind_some _ _).symm.trans H; rw [hy577]; with_reducible exact H2_) | (have H2_ := (Option.bind_some _ _).symm.trans H; with_reducible exact H2_) | with_reducible exact H | (rw [hy577]; exact H) | exact H
           have Ny577 := Aside0.mk hy577
           clear hy577
           have H' := Aside0.mk H
           clear H
           obtain ⟨Ao20, co20, eo20⟩ := Kd.R_slice HO_3.out
           subst eo20
           have p576 : 0 ≤ (x8_3 : Int) := od_
           have q576 : x8_3 < (x3_1.length : Int) := od_
           obtain ⟨ad576, e576, hx576_0⟩ := Kd.at_int (Kd.R_reads' HO_3.out).2.2 x8_3 p576 q576
           cases e576
           replace p576 := eq_true p576
           replace q576 := eq_true q576
           go_wp2_with (first | ((with_reducible refine gate_builtin (b := .append) (xs := #[.tmp 54, .tmp 59]) rfl ?_); at_builtin; refine Kd.R_append (Kd.int .i64) (w0 := w) w.heap.size rfl (.tmp 54) (.tmp 59) 35 3 (.int .i64 0) 8 rfl Try.underlying35 info3 rfl (by decide) (by omega) u6 x6_3 (rd x3_1 x8_3) [.int .i64 (rd x3_1 x8_3)] (fun k_ => some k_ ≠ (.slice (some ad576) x3_1.length co20 : Value).ownBlock) (fun _ => False) rfl rfl ?aP (fun _ hk => hk.elim) ?aF ?aO ?aB ?aS ?aL ?_; (case aP => exact rfl); (case aB => exact bl_); (case aF => exact (fun k_ hk => Kd.fresh' (Kd.R_lt (by (with_reducible repeat (first | apply Kd.R_alloc | apply Kd.R_drewN | apply Kd.R_drew)); exact HO_3.out)) k_ hk)); (case aO => exact (by (with_reducible repeat (first | apply Kd.R_alloc | apply Kd.R_drewN | apply Kd.R_drew)); exact HO_6.out)); (case aS => exact bls_); (case aL => have := LMc19.out; omega); intro v578 w21 ho hb hg hat; rw [← Ny577.out] at ho; replace HO_3 := Aside0.mk (Kd.R_after (ok := (fun _ => True)) (by (with_reducible repeat (first | apply Kd.R_alloc | apply Kd.R_drewN | apply Kd.R_drew)); exact Kd.R_mono HO_3.out (fun _ hk => ⟨trivial, hk⟩)) hg hat); replace HB := Aside0.mk (hb); have HO579 := Aside0.mk (ho); clear HO_6; clear ho hb hg hat))
           go_roundg k3
           case measure => have := HK1.out; have := HJ5.out; have := HK3.out; omega
           case rel => exact ⟨(y577), (true), (wrap64 (x8_3 + 1)), rf_, rf_, H', ⟨by have := HK1.out; have := HJ5.out; have := HK3.out; omega⟩, ⟨by (with_reducible repeat (first | apply Kd.R_alloc | apply Kd.R_drewN | apply Kd.R_drew)); exact Kd.R_mono HO_3.out (fun _ hk => hk.2)⟩, ⟨by (with_reducible repeat (first | apply Kd.R_alloc | apply Kd.R_drewN | apply Kd.R_drew)); exact HO579.out⟩, ⟨bl_⟩⟩
          ·replace c17 := Bool.eq_false_iff.mpr c17
           subst c17
           replace H := ite_f_ H
           obtain ⟨c22b0, H⟩ := ifd_ H
           by_cases c23 : (wrap64 (((rd_T48 l0 x4_1).f5) + 1)) < (rd x3_1 x8_3)
           ·rw [if_pos c23] at H
            have c23b0 : decide ((wrap64 (((rd_T48 l0 x4_1).f5) + 1)) < (rd x3_1 x8_3)) = true := decide_eq_true c23
            clear c23
            obtain ⟨c24, H⟩ := ifn_ H
            have LMc24 := Aside0.mk c24
            clear c24
            obtain ⟨y581, hy581⟩ : ∃ y_ : List Int, y_ = (x6_3 ++ [(wrap64 (((rd_T48 l0 x4_1).f5) + 1))]) := ⟨_, rfl⟩
            replace H : (if y581.length < 17592186044416 then (spec_EndsOf.l1 k3 l0 x3_1 x4_1 (wrap64 (((rd_T48 l0 x4_1).f5) + 1)) (y581 ++ [rd x3_1 x8_3]) true (wrap64 (x8_3 + 1))) else (none)) = some r := by first | (rw [hy581]; with_reducible exact H) | (have H2_ := (Option.bind_some _ _).symm.trans H; rw [hy581]; with_reducible exact H2_) | (have H2_ := (Option.bind_some _ _).symm.trans H; with_reducible exact H2_) | with_reducible exact H | (rw [hy581]; exact H) | exact H
            have Ny581 := Aside0.mk hy581
            clear hy581
            obtain ⟨c25, H⟩ := ifn_ H
            have LMc25 := Aside0.mk c25
            clear c25
            obtain ⟨y585, hy585⟩ : ∃ y_ : List Int, y_ = (y581 ++ [rd x3_1 x8_3]) := ⟨_, rfl⟩
            replace H : (spec_EndsOf.l1 k3 l0 x3_1 x4_1 (wrap64 (((rd_T48 l0 x4_1).f5) + 1)) y585 true (wrap64 (x8_3 + 1))) = some r := by first | (rw [hy585]; with_reducible exact H) | (have H2_ := (Option.bind_some _ _).symm.trans H; rw [hy585]; with_reducible exact H2_) | (have H2_ := (Option.bind_some _ _).symm.trans H; with_reducible exact H2_) | with_reducible exact H | (rw [hy585]; exact H) | exact H
            have Ny585 := Aside0.mk hy585
            clear hy585
            have H' := Aside0.mk H
            clear H
            obtain ⟨Ao26, co26, eo26⟩ := Kd.R_slice HO_3.out
            subst eo26
            have p580 : 0 ≤ (x8_3 : Int) := od_
            have q580 : x8_3 < (x3_1.length : Int) := od_
            obtain ⟨ad580, e580, hx580_0⟩ := Kd.at_int (Kd.R_reads' HO_3.out).2.2 x8_3 p580 q580
            cases e580
            replace p580 := eq_true p580
            replace q580 := eq_true q580
            go_wp2_with (first | ((with_reducible refine gate_builtin (b := .append) (xs := #[.tmp 50, .tmp 52]) rfl ?_); at_builtin; refine Kd.R_append (Kd.int .i64) (w0 := w) w.heap.size rfl (.tmp 50) (.tmp 52) 35 3 (.int .i64 0) 8 rfl Try.underlying35 info3 rfl (by decide) (by omega) u6 x6_3 (wrap64 (((rd_T48 l0 x4_1).f5) + 1)) [.int .i64 (wrap64 (((rd_T48 l0 x4_1).f5) + 1))] (fun k_ => some k_ ≠ (.slice (some ad580) x3_1.length co26 : Value).ownBlock) (fun _ => False) rfl rfl ?aP (fun _ hk => hk.elim) ?aF ?aO ?aB ?aS ?aL ?_; (case aP => exact rfl); (case aB => exact bl_); (case aF => exact (fun k_ hk => Kd.fresh' (Kd.R_lt (by (with_reducible repeat (first | apply Kd.R_alloc | apply Kd.R_drewN | apply Kd.R_drew)); exact HO_3.out)) k_ hk)); (case aO => exact (by (with_reducible repeat (first | apply Kd.R_alloc | apply Kd.R_drewN | apply Kd.R_drew)); exact HO_6.out)); (case aS => exact bls_); (case aL => have := LMc24.out; omega); intro v582 w27 ho hb hg hat; rw [← Ny581.out] at ho; replace HO_3 := Aside0.mk (Kd.R_after (ok := (fun _ => True)) (by (with_reducible repeat (first | apply Kd.R_alloc | apply Kd.R_drewN | apply Kd.R_drew)); exact Kd.R_mono HO_3.out (fun _ hk => ⟨trivial, hk⟩)) hg hat); replace HB := Aside0.mk (hb); have HO583 := Aside0.mk (ho); clear HO_6; clear ho hb hg hat; have p584 : 0 ≤ (x8_3 : Int) := od_; have q584 : x8_3 < (x3_1.length : Int) := od_; obtain ⟨ad584, e584, hx584_0⟩ := Kd.at_int (Kd.R_reads' HO_3.out).2.2 x8_3 p584 q584; obtain rfl : ad580 = ad584 := (by injection e584); replace p584 := eq_true p584; replace q584 := eq_true q584) | ((with_reducible refine gate_builtin (b := .append) (xs := #[.tmp 54, .tmp 59]) rfl ?_); at_builtin; refine Kd.R_append (Kd.int .i64) (w0 := w) w.heap.size rfl (.tmp 54) (.tmp 59) 35 3 (.int .i64 0) 8 rfl Try.underlying35 info3 rfl (by decide) (by omega) v582 y581 (rd x3_1 x8_3) [.int .i64 (rd x3_1 x8_3)] (fun k_ => some k_ ≠ (.slice (some ad580) x3_1.length co26 : Value).ownBlock) (fun _ => False) rfl rfl ?aP (fun _ hk => hk.elim) ?aF ?aO ?aB ?aS ?aL ?_; (case aP => exact rfl); (case aB => exact bl_); (case aF => exact (fun k_ hk => Kd.fresh' (Kd.R_lt (by (with_reducible repeat (first | apply Kd.R_alloc | apply Kd.R_drewN | apply Kd.R_drew)); exact HO_3.out)) k_ hk)); (case aO => exact (by (with_reducible repeat (first | apply Kd.R_alloc | apply Kd.R_drewN | apply Kd.R_drew)); exact HO583.out)); (case aS => exact bls_); (case aL => have := LMc25.out; omega); intro v586 w28 ho hb hg hat; rw [← Ny585.out] at ho; replace HO_3 := Aside0.mk (Kd.R_after (ok := (fun _ => True)) (by (with_reducible repeat (first | apply Kd.R_alloc | apply Kd.R_drewN | apply Kd.R_drew)); exact HO_3.out) hg hat); replace HB := Aside0.mk (hb); have HO587 := Aside0.mk (ho); clear HO583; clear ho hb hg hat))
            go_roundg k3
            case measure => have := HK1.out; have := HJ5.out; have := HK3.out; omega
            case rel => exact ⟨(y585), (true), (wrap64 (x8_3 + 1)), rf_, rf_, H', ⟨by have := HK1.out; have := HJ5.out; have := HK3.out; omega⟩, ⟨by (with_reducible repeat (first | apply Kd.R_alloc | apply Kd.R_drewN | apply Kd.R_drew)); exact Kd.R_mono HO_3.out (fun _ hk => hk.2)⟩, ⟨by (with_reducible repeat (first | apply Kd.R_alloc | apply Kd.R_drewN | apply Kd.R_drew)); exact HO587.out⟩, ⟨bl_⟩⟩
           ·rw [if_neg c23] at H
            have c23b0 : decide ((wrap64 (((rd_T48 l0 x4_1).f5) + 1)) < (rd x3_1 x8_3)) = false := decide_eq_false c23
            clear c23
            obtain ⟨c29, H⟩ := ifn_ H
            have LMc29 := Aside0.mk c29
            clear c29
            obtain ⟨y589, hy589⟩ : ∃ y_ : List Int, y_ = (x6_3 ++ [rd x3_1 x8_3]) := ⟨_, rfl⟩
            replace H : (spec_EndsOf.l1 k3 l0 x3_1 x4_1 (wrap64 (((rd_T48 l0 x4_1).f5) + 1)) y589 false (wrap64 (x8_3 + 1))) = some r := by first | (rw [hy589]; with_reducible exact H) | (have H2_ := (Option.bind_some _ _).symm.trans H; rw [hy589]; with_reducible exact H2_) | (have H2_ := (Option.bind_some _ _).symm.trans H; with_reducible exact H2_) | with_reducible exact H | (rw [hy589]; exact H) | exact H
            have Ny589 := Aside0.mk hy589
            clear hy589
            have H' := Aside0.mk H
            clear H
            obtain ⟨Ao30, co30, eo30⟩ := Kd.R_slice HO_3.out
            subst eo30
            have p580 : 0 ≤ (x8_3 : Int) := od_
            have q580 : x8_3 < (x3_1.length : Int) := od_
            obtain ⟨ad580, e580, hx580_0⟩ := Kd.at_int (Kd.R_reads' HO_3.out).2.2 x8_3 p580 q580
            cases e580
            replace p580 := eq_true p580
            replace q580 := eq_true q580
            have p588 : 0 ≤ (x8_3 : Int) := od_
            have q588 : x8_3 < (x3_1.length : Int) := od_
            obtain ⟨ad588, e588, hx588_0⟩ := Kd.at_int (Kd.R_reads' HO_3.out).2.2 x8_3 p588 q588
            obtain rfl : ad580 = ad588 := (by injection e588)
            replace p588 := eq_true p588
            replace q588 := eq_true q588
            go_wp2_with (first | ((with_reducible refine gate_builtin (b := .append) (xs := #[.tmp 54, .tmp 59]) rfl ?_); at_builtin; refine Kd.R_append (Kd.int .i64) (w0 := w) w.heap.size rfl (.tmp 54) (.tmp 59) 35 3 (.int .i64 0) 8 rfl Try.underlying35 info3 rfl (by decide) (by omega) u6 x6_3 (rd x3_1 x8_3) [.int .i64 (rd x3_1 x8_3)] (fun k_ => some k_ ≠ (.slice (some ad580) x3_1.length co30 : Value).ownBlock) (fun _ => False) rfl rfl ?aP (fun _ hk => hk.elim) ?aF ?aO ?aB ?aS ?aL ?_; (case aP => exact rfl); (case aB => exact bl_); (case aF => exact (fun k_ hk => Kd.fresh' (Kd.R_lt (by (with_reducible repeat (first | apply Kd.R_alloc | apply Kd.R_drewN | apply Kd.R_drew)); exact HO_3.out)) k_ hk)); (case aO => exact (by (with_reducible repeat (first | apply Kd.R_alloc | apply Kd.R_drewN | apply Kd.R_drew)); exact HO_6.out)); (case aS => exact bls_); (case aL => have := LMc29.out; omega); intro v590 w31 ho hb hg hat; rw [← Ny589.out] at ho; replace HO_3 := Aside0.mk (Kd.R_after (ok := (fun _ => True)) (by (with_reducible repeat (first | apply Kd.R_alloc | apply Kd.R_drewN | apply Kd.R_drew)); exact Kd.R_mono HO_3.out (fun _ hk => ⟨trivial, hk⟩)) hg hat); replace HB := Aside0.mk (hb); have HO591 := Aside0.mk (ho); clear HO_6; clear ho hb hg hat))
            go_roundg k3
            case measure => have := HK1.out; have := HJ5.out; have := HK3.out; omega
            case rel => exact ⟨(y589), (false), (wrap64 (x8_3 + 1)), rf_, rf_, H', ⟨by have := HK1.out; have := HJ5.out; have := HK3.out; omega⟩, ⟨by (with_reducible repeat (first | apply Kd.R_alloc | apply Kd.R_drewN | apply Kd.R_drew)); exact Kd.R_mono HO_3.out (fun _ hk => hk.2)⟩, ⟨by (with_reducible repeat (first | apply Kd.R_alloc | apply Kd.R_drewN | apply Kd.R_drew)); exact HO591.out⟩, ⟨bl_⟩⟩
         ·rw [if_neg c16] at H
          have c16b0 : decide (x8_3 < (x3_1.length : Int)) = false := decide_eq_false c16
          clear c16
          by_cases c32 : x7_3 = true
          ·subst c32
           replace H := ite_t_ H
           have H' := Aside0.mk H
           clear H
           obtain ⟨Ao33, co33, eo33⟩ := Kd.R_slice HO_3.out
           subst eo33
           go_wp2
           go_roundg k3
           case measure => have := HK1.out; have := HJ5.out; have := HK3.out; omega
           case rel => exact ⟨(x6_3), (wrap64 (x4_1 + 1)), rf_, H', ⟨by have := HK1.out; have := HJ5.out; have := HK3.out; omega⟩, ⟨by (with_reducible repeat (first | apply Kd.R_alloc | apply Kd.R_drewN | apply Kd.R_drew)); exact Kd.R_mono HO_6.out (fun _ hk => trivial)⟩, ⟨bl_⟩⟩
          ·replace c32 := Bool.eq_false_iff.mpr c32
           subst c32
           replace H := ite_f_ H
           obtain ⟨c34, H⟩ := ifn_ H
           have LMc34 := Aside0.mk c34
           clear c34
           obtain ⟨y592, hy592⟩ : ∃ y_ : List Int, y_ = (x6_3 ++ [(wrap64 (((rd_T48 l0 x4_1).f5) + 1))]) := ⟨_, rfl⟩
           replace H : (spec_EndsOf.l0 k3 l0 y592 (wrap64 (x4_1 + 1))) = some r := by first | (rw [hy592]; with_reducible exact H) | (have H2_ := (Option.bind_some _ _).symm.trans H; rw [hy592]; with_reducible exact H2_) | (have H2_ := (Option.bind_some _ _).symm.trans H; with_reducible exact H2_) | with_reducible exact H | (rw [hy592]; exact H) | exact H
           have Ny592 := Aside0.mk hy592
           clear hy592
           have H' := Aside0.mk H
           clear H
           obtain ⟨Ao35, co35, eo35⟩ := Kd.R_slice HO_3.out
           subst eo35
           go_wp2_with (first | ((with_reducible refine gate_builtin (b := .append) (xs := #[.tmp 63, .tmp 65]) rfl ?_); at_builtin; refine Kd.R_append (Kd.int .i64) (w0 := w) w.heap.size rfl (.tmp 63) (.tmp 65) 35 3 (.int .i64 0) 8 rfl Try.underlying35 info3 rfl (by decide) (by omega) u6 x6_3 (wrap64 (((rd_T48 l0 x4_1).f5) + 1)) [.int .i64 (wrap64 (((rd_T48 l0 x4_1).f5) + 1))] (fun k_ => some k_ ≠ (.slice Ao35 x3_1.length co35 : Value).ownBlock) (fun _ => False) rfl rfl ?aP (fun _ hk => hk.elim) ?aF ?aO ?aB ?aS ?aL ?_; (case aP => exact rfl); (case aB => exact bl_); (case aF => exact (fun k_ hk => Kd.fresh' (Kd.R_lt (by (with_reducible repeat (first | apply Kd.R_alloc | apply Kd.R_drewN | apply Kd.R_drew)); exact HO_3.out)) k_ hk)); (case aO => exact (by (with_reducible repeat (first | apply Kd.R_alloc | apply Kd.R_drewN | apply Kd.R_drew)); exact HO_6.out)); (case aS => exact bls_); (case aL => have := LMc34.out; omega); intro v593 w36 ho hb hg hat; rw [← Ny592.out] at ho; replace HO_3 := Aside0.mk (Kd.R_after (ok := (fun _ => True)) (by (with_reducible repeat (first | apply Kd.R_alloc | apply Kd.R_drewN | apply Kd.R_drew)); exact Kd.R_mono HO_3.out (fun _ hk => ⟨trivial, hk⟩)) hg hat); replace HB := Aside0.mk (hb); have HO594 := Aside0.mk (ho); clear HO_6; clear ho hb hg hat))
           go_roundg k3
           case measure => have := HK1.out; have := HJ5.out; have := HK3.out; omega
           case rel => exact ⟨(y592), (wrap64 (x4_1 + 1)), rf_, H', ⟨by have := HK1.out; have := HJ5.out; have := HK3.out; omega⟩, ⟨by (with_reducible repeat (first | apply Kd.R_alloc | apply Kd.R_drewN | apply Kd.R_drew)); exact Kd.R_mono HO594.out (fun _ hk => trivial)⟩, ⟨bl_⟩⟩
   ·rw [if_neg c4] at H
    have c4b0 : decide (x4_1 < (l0.length : Int)) = false := decide_eq_false c4
    clear c4
    obtain rfl := Option.some.inj H
    go_wp2
    go_ret
    exact ⟨_, eq_, by (with_reducible repeat (first | apply Kd.R_alloc | apply Kd.R_drewN | apply Kd.R_drew)); exact HO_3.out, bl_⟩
def laws_sameFacts.l0 : Nat → List (S54) → List (S54) → Int → Option (Bool)
 | 0, _, _, _ => none
 | k + 1, x0, x1, x5 => if x5 < (x0.length : Int) then (if 0 ≤ x5 then (if x5 < (x1.length : Int) then (if ((!(((rd_T54 x0 x5).f0.f0) == ((rd_T54 x1 x5).f0.f0)) || (!(((rd_T54 x0 x5).f0.f1) == ((rd_T54 x1 x5).f0.f1)))) || (!(((rd_T54 x0 x5).f1) == ((rd_T54 x1 x5).f1)))) = true then (some false) else (laws_sameFacts.l0 k x0 x1 (wrap64 (x5 + 1)))) else (none)) else (none)) else (some true)
def laws_sameFacts.f (k : Nat) (l0 : List (S54)) (l1 : List (S54)) : Option (Bool) := if (l0.length : Int) = (l1.length : Int) then (laws_sameFacts.l0 k l0 l1 0) else (some false)
set_option maxHeartbeats 8000000 in
set_option maxRecDepth 100000 in
theorem laws_sameFacts.calls (k : Nat) (A0 : Option Addr) (c0 : Nat) (l0 : List (S54)) (A1 : Option Addr) (c1 : Nat) (l1 : List (S54)) (r : Bool) (w : World) (hr0 : Kd.C k54 w A0 l0.length l0) (hc0 : l0.length ≤ c0) (hr1 : Kd.C k54 w A1 l1.length l1) (hc1 : l1.length ≤ c1) (h : laws_sameFacts.f k l0 l1 = some r) :
  Calls Try.prog 15 #[.slice A0 l0.length c0, .slice A1 l1.length c1] w fun e w' => e = .returned (.bool r) ∧ Drawn0 w w' := by
 have hu54 := Try.underlying54
 have HR0 := Aside0.mk hr0
 have HC0 := Aside0.mk hc0
 clear hr0 hc0
 have HR1 := Aside0.mk hr1
 have HC1 := Aside0.mk hc1
 clear hr1 hc1
 have H : (if (l0.length : Int) = (l1.length : Int) then (laws_sameFacts.l0 k l0 l1 0) else (some false)) = some r := h
 clear h
 by_cases c3 : (l0.length : Int) = (l1.length : Int)
 ·rw [if_pos c3] at H
  have c3b0 : ((l0.length : Int) == (l1.length : Int)) = true := beq_iff_eq.mpr c3
  have c3b1 : ((l0.length : Int) != (l1.length : Int)) = false := bne_eq_false_iff_eq.mpr c3
  have c3b2 : (l0.length == l1.length) = true := by first | simpa using c3 | (simp at c3 ⊢; omega)
  clear c3
  have H' := Aside0.mk H
  clear H
  go_enter Try.func15, Try.ntmps15
  go_wp2
  repeat (go_quiet (fail); try go_wp2)
  go_loopg [5] k (fun kq v5 w' => ∃ (x5_1 : Int), v5 = .int .i64 x5_1 ∧ Aside0 (laws_sameFacts.l0 kq l0 l1 x5_1 = some r) ∧ Aside0 (kq ≤ k) ∧ Drawn0 w w')
  case atStart => exact ⟨(0), rf_, H', ⟨Nat.le_refl _⟩, by repeat (first | exact Drawn0.refl _ | apply Drawn0.step)⟩
  case round =>
   clear H'
   try clear c1
   try clear p2
   try clear c3
   try clear c3b0
   try clear c3b1
   try clear c3b2
   obtain ⟨x5_1, rfl, HA, HK1, ⟨m1, rfl⟩⟩ := hrel
   cases gk with
   | zero => exact absurd HA.out (by simp [laws_sameFacts.l0])
   | succ k1 =>
    have H := HA.out
    clear HA
    simp only [laws_sameFacts.l0] at H
    by_cases c4 : x5_1 < (l0.length : Int)
    ·rw [if_pos c4] at H
     have c4b0 : decide (x5_1 < (l0.length : Int)) = true := decide_eq_true c4
     clear c4
     obtain ⟨c5b0, H⟩ := ifd_ H
     obtain ⟨c6b0, H⟩ := ifd_ H
     by_cases c7 : ((!(((rd_T54 l0 x5_1).f0.f0) == ((rd_T54 l1 x5_1).f0.f0)) || (!(((rd_T54 l0 x5_1).f0.f1) == ((rd_T54 l1 x5_1).f0.f1)))) || (!(((rd_T54 l0 x5_1).f1) == ((rd_T54 l1 x5_1).f1)))) = true
     ·rw [if_pos c7] at H
      have c7b0 : ((!(((rd_T54 l0 x5_1).f0.f0) == ((rd_T54 l1 x5_1).f0.f0)) || (!(((rd_T54 l0 x5_1).f0.f1) == ((rd_T54 l1 x5_1).f0.f1)))) || (!(((rd_T54 l0 x5_1).f1) == ((rd_T54 l1 x5_1).f1)))) = true := c7
      clear c7
      obtain rfl := Option.some.inj H
      have p595 : 0 ≤ (x5_1 : Int) := od_
      have q595 : x5_1 < (l0.length : Int) := od_
      obtain ⟨ad595, e595, hx595_0, hx595_1, hx595_2⟩ := at_T54 HR0.out x5_1 p595 q595
      cases e595
      replace p595 := eq_true p595
      replace q595 := eq_true q595
      have p596 : 0 ≤ (x5_1 : Int) := od_
      have q596 : x5_1 < (l1.length : Int) := od_
      obtain ⟨ad596, e596, hx596_0, hx596_1, hx596_2⟩ := at_T54 HR1.out x5_1 p596 q596
      cases e596
      replace p596 := eq_true p596
      replace q596 := eq_true q596
      go_wp2
      repeat (go_quiet (fail); try go_wp2)
      go_ret
      exact ⟨by first | rfl | (simp; done) | (simp [*]; done), by repeat (first | exact Drawn0.refl _ | apply Drawn0.step)⟩
     ·rw [if_neg c7] at H
      have c7b0 : ((!(((rd_T54 l0 x5_1).f0.f0) == ((rd_T54 l1 x5_1).f0.f0)) || (!(((rd_T54 l0 x5_1).f0.f1) == ((rd_T54 l1 x5_1).f0.f1)))) || (!(((rd_T54 l0 x5_1).f1) == ((rd_T54 l1 x5_1).f1)))) = false := by simpa using c7
      clear c7
      have H' := Aside0.mk H
      clear H
      have p595 : 0 ≤ (x5_1 : Int) := od_
      have q595 : x5_1 < (l0.length : Int) := od_
      obtain ⟨ad595, e595, hx595_0, hx595_1, hx595_2⟩ := at_T54 HR0.out x5_1 p595 q595
      cases e595
      replace p595 := eq_true p595
      replace q595 := eq_true q595
      have p596 : 0 ≤ (x5_1 : Int) := od_
      have q596 : x5_1 < (l1.length : Int) := od_
      obtain ⟨ad596, e596, hx596_0, hx596_1, hx596_2⟩ := at_T54 HR1.out x5_1 p596 q596
      cases e596
      replace p596 := eq_true p596
      replace q596 := eq_true q596
      go_wp2
      repeat (go_quiet (fail); try go_wp2)
      go_roundg k1
      case measure => have := HK1.out; omega
      case rel => exact ⟨(wrap64 (x5_1 + 1)), rf_, H', ⟨by have := HK1.out; omega⟩, by repeat (first | exact Drawn0.refl _ | apply Drawn0.step)⟩
    ·rw [if_neg c4] at H
     have c4b0 : decide (x5_1 < (l0.length : Int)) = false := decide_eq_false c4
     clear c4
     obtain rfl := Option.some.inj H
     go_wp2
     repeat (go_quiet (fail); try go_wp2)
     go_ret
     exact ⟨by first | rfl | (simp; done) | (simp [*]; done), by repeat (first | exact Drawn0.refl _ | apply Drawn0.step)⟩
 ·rw [if_neg c3] at H
  have c3b0 : ((l0.length : Int) == (l1.length : Int)) = false := beq_eq_false_iff_ne.mpr c3
  have c3b1 : ((l0.length : Int) != (l1.length : Int)) = true := bne_iff_ne.mpr c3
  have c3b2 : (l0.length == l1.length) = false := by first | simpa using c3 | (simp at c3 ⊢; omega)
  obtain rfl := Option.some.inj H
  go_enter Try.func15, Try.ntmps15
  go_wp2
  repeat (go_quiet (fail); try go_wp2)
  go_ret
  exact ⟨by first | rfl | (simp; done) | (simp [*]; done), by repeat (first | exact Drawn0.refl _ | apply Drawn0.step)⟩
def impl_StillAt.f (k : Nat) (l0 : List (S48)) (a1 : Int) : Option ((List (S54))) := (impl_Alive.f k l0 a1).bind fun t597 => ((impl_FactsOf.f k t597).bind fun t600 => (some t600))
set_option maxHeartbeats 8000000 in
set_option maxRecDepth 100000 in
theorem impl_StillAt.calls (k : Nat) (A0 : Option Addr) (c0 : Nat) (l0 : List (S48)) (a1 : Int) (r : List (S54)) (w : World) (hr0 : Kd.C k48 w A0 l0.length l0) (hc0 : l0.length ≤ c0) (h : impl_StillAt.f k l0 a1 = some r) :
  Calls Try.prog 16 #[.slice A0 l0.length c0, .int .i64 a1] w fun e w' => ∃ v0_ : Value, e = .returned (v0_) ∧ Kd.R k54 54 w' w.heap.size (fun _ => True) v0_ r ∧ Below w.heap.size w w' := by
 have HR0 := Aside0.mk hr0
 have HC0 := Aside0.mk hc0
 clear hr0 hc0
 have HB := Aside0.mk (Below.refl w.heap.size w)
 have H : ((impl_Alive.f k l0 a1).bind fun t597 => ((impl_FactsOf.f k t597).bind fun t600 => (some t600))) = some r := h
 clear h
 obtain ⟨t597, A3, H⟩ := bindE_ H
 obtain ⟨t600, A4, H⟩ := bindE_ H
 obtain rfl := Option.some.inj H
 go_enter Try.func16, Try.ntmps16
 go_wp2_with (first | ((with_reducible refine gate_callee (f := 26) rfl ?_); refine goesC_ (some 7) Try.func26 #[.slice A0 l0.length c0, .int .i64 a1] ?_; (with_reducible refine (impl_Alive.calls k _ _ l0 a1 t597 _ ?side1 ?side2 A3.out).mono ?_); (case side1 => repeat (first | exact HR0.out | (with_reducible refine Kd.C_alloc ?_ _) | (with_reducible refine Kd.C_drewN ?_ _) | (with_reducible refine Kd.C_drew ?_))); (case side2 => exact HC0.out); rintro e w5 ⟨v598, rfl, ho0, hb⟩; refine ⟨_, rfl, ?_⟩; have HO599 := Aside0.mk (Kd.R_lower ho0 bls_); replace HB := hbs_ hb; (try clear hb); (try clear hb2); (try clear hk); (try clear hi); (try clear ho0); obtain ⟨Ao6, co6, eo6⟩ := Kd.R_slice HO599.out; subst eo6) | ((with_reducible refine gate_callee (f := 34) rfl ?_); refine goesC_ (some 8) Try.func34 #[.slice Ao6 t597.length co6] ?_; (with_reducible refine (impl_FactsOf.calls k _ _ t597 t600 _ ?side1 ?side2 A4.out).mono ?_); (case side1 => repeat (first | exact (Kd.R_reads' HO599.out).2.2 | (with_reducible refine Kd.C_alloc ?_ _) | (with_reducible refine Kd.C_drewN ?_ _) | (with_reducible refine Kd.C_drew ?_))); (case side2 => exact (Kd.R_reads' HO599.out).2.1); rintro e w7 ⟨v601, rfl, ho0, hb⟩; refine ⟨_, rfl, ?_⟩; replace HO599 := hob_ HO599 hb; have HO602 := Aside0.mk (Kd.R_lower ho0 bls_); replace HB := hbs_ hb; (try clear hb); (try clear hb2); (try clear hk); (try clear hi); (try clear ho0)))
 go_ret
 exact ⟨_, eq_, by (with_reducible repeat (first | apply Kd.R_alloc | apply Kd.R_drewN | apply Kd.R_drew)); exact HO602.out, bl_⟩
def spec_StillAt.f (k : Nat) (l0 : List (S48)) (a1 : Int) : Option ((List (S54))) := (spec_Alive.f k l0 a1).bind fun t603 => ((spec_FactsOf.f k t603).bind fun t606 => (some t606))
set_option maxHeartbeats 8000000 in
set_option maxRecDepth 100000 in
theorem spec_StillAt.calls (k : Nat) (A0 : Option Addr) (c0 : Nat) (l0 : List (S48)) (a1 : Int) (r : List (S54)) (w : World) (hr0 : Kd.C k48 w A0 l0.length l0) (hc0 : l0.length ≤ c0) (h : spec_StillAt.f k l0 a1 = some r) :
  Calls Try.prog 17 #[.slice A0 l0.length c0, .int .i64 a1] w fun e w' => ∃ v0_ : Value, e = .returned (v0_) ∧ Kd.R k54 54 w' w.heap.size (fun _ => True) v0_ r ∧ Below w.heap.size w w' := by
 have HR0 := Aside0.mk hr0
 have HC0 := Aside0.mk hc0
 clear hr0 hc0
 have HB := Aside0.mk (Below.refl w.heap.size w)
 have H : ((spec_Alive.f k l0 a1).bind fun t603 => ((spec_FactsOf.f k t603).bind fun t606 => (some t606))) = some r := h
 clear h
 obtain ⟨t603, A3, H⟩ := bindE_ H
 obtain ⟨t606, A4, H⟩ := bindE_ H
 obtain rfl := Option.some.inj H
 go_enter Try.func17, Try.ntmps17
 go_wp2_with (first | ((with_reducible refine gate_callee (f := 28) rfl ?_); refine goesC_ (some 7) Try.func28 #[.slice A0 l0.length c0, .int .i64 a1] ?_; (with_reducible refine (spec_Alive.calls k _ _ l0 a1 t603 _ ?side1 ?side2 A3.out).mono ?_); (case side1 => repeat (first | exact HR0.out | (with_reducible refine Kd.C_alloc ?_ _) | (with_reducible refine Kd.C_drewN ?_ _) | (with_reducible refine Kd.C_drew ?_))); (case side2 => exact HC0.out); rintro e w5 ⟨v604, rfl, ho0, hb⟩; refine ⟨_, rfl, ?_⟩; have HO605 := Aside0.mk (Kd.R_lower ho0 bls_); replace HB := hbs_ hb; (try clear hb); (try clear hb2); (try clear hk); (try clear hi); (try clear ho0); obtain ⟨Ao6, co6, eo6⟩ := Kd.R_slice HO605.out; subst eo6) | ((with_reducible refine gate_callee (f := 35) rfl ?_); refine goesC_ (some 8) Try.func35 #[.slice Ao6 t603.length co6] ?_; (with_reducible refine (spec_FactsOf.calls k _ _ t603 t606 _ ?side1 ?side2 A4.out).mono ?_); (case side1 => repeat (first | exact (Kd.R_reads' HO605.out).2.2 | (with_reducible refine Kd.C_alloc ?_ _) | (with_reducible refine Kd.C_drewN ?_ _) | (with_reducible refine Kd.C_drew ?_))); (case side2 => exact (Kd.R_reads' HO605.out).2.1); rintro e w7 ⟨v607, rfl, ho0, hb⟩; refine ⟨_, rfl, ?_⟩; replace HO605 := hob_ HO605 hb; have HO608 := Aside0.mk (Kd.R_lower ho0 bls_); replace HB := hbs_ hb; (try clear hb); (try clear hb2); (try clear hk); (try clear hi); (try clear ho0)))
 go_ret
 exact ⟨_, eq_, by (with_reducible repeat (first | apply Kd.R_alloc | apply Kd.R_drewN | apply Kd.R_drew)); exact HO608.out, bl_⟩
-- NOT PRINTED: function 53 (impl_Fact_53)
-- NOT PRINTED: function 37 (impl_Fact_37)
-- NOT PRINTED: function 38 (impl_LostAt_1)
end Go.Proofs.Yteehgihclnlaoaa.PA
