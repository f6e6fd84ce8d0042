import Derived.Test.YtppdmcimddhbaaaKCPGx11
import Derived.Test.YtppdmcimddhbaaaKCPGx12
-- printed by wip/tools
namespace Go.Proofs.Ytppdmcimddhbaaa.PG
open Go.RowKit Go.Proofs.YtppdmcimddhbaaaW.PrintWords Go.Proofs.YtppdmcimddhbaaaW.PrintLast Go.Proofs.YtppdmcimddhbaaaW.PrintMore
attribute [local go_sem] max2_int min2_int max_two min_two max_three min_three max_four min_four
set_option linter.unusedVariables false
set_option linter.unusedSimpArgs false
mutual
def impl_costs.l0 : Nat → List (S46) → List (S29) → List Int → Bool → Option (List Int)
 | 0, _, _, _, _ => none
 | k + 1, x0, x1, x5, x6 => if x6 = true then (impl_costs.l1 k x0 x1 x5 false x0 (x0.length : Int) 0) else (some x5)
def impl_costs.l1 : Nat → List (S46) → List (S29) → List Int → Bool → List (S46) → Int → Int → Option (List Int)
 | 0, _, _, _, _, _, _, _ => none
 | k + 1, x0, x1, x5, x6, x18, x19, x20 => if x20 < x19 then (if 0 ≤ x20 then (if x20 < (x18.length : Int) then ((impl_CredOk.f k ((rd_T46 x18 x20).f0) ((rd_T46 x18 x20).f1.f0) ((rd_T46 x18 x20).f1.f1) ((rd_T46 x18 x20).f2) ((rd_T46 x18 x20).f3.f0) ((rd_T46 x18 x20).f3.f1) ((rd_T46 x18 x20).f4.f0) ((rd_T46 x18 x20).f4.f1) ((rd_T46 x18 x20).f5) ((rd_T46 x18 x20).f6)).bind fun t392 => (if t392 = true then ((impl_derive.f k x1 ((rd_T46 x18 x20).f0) ((rd_T46 x18 x20).f1.f0) ((rd_T46 x18 x20).f1.f1) ((rd_T46 x18 x20).f2) ((rd_T46 x18 x20).f3.f0) ((rd_T46 x18 x20).f3.f1) ((rd_T46 x18 x20).f4.f0) ((rd_T46 x18 x20).f4.f1) ((rd_T46 x18 x20).f5) ((rd_T46 x18 x20).f6)).bind fun t393 => (impl_costs.l2 k x0 x1 x5 x6 x18 x19 x20 t393 (t393.length : Int) 0)) else (impl_costs.l1 k x0 x1 x5 x6 x18 x19 (wrap64 (x20 + 1))))) else (none)) else (none)) else (impl_costs.l0 k x0 x1 x5 x6)
def impl_costs.l2 : Nat → List (S46) → List (S29) → List Int → Bool → List (S46) → Int → Int → List (S177) → Int → Int → Option (List Int)
 | 0, _, _, _, _, _, _, _, _, _, _ => none
 | k + 1, x0, x1, x5, x6, x18, x19, x20, x29, x30, x31 => if x31 < x30 then (if 0 ≤ x31 then (if x31 < (x29.length : Int) then ((impl_sizeBy.f k x5 ((rd_T177 x29 x31).f0.f0.f0) ((rd_T177 x29 x31).f0.f0.f1) ((rd_T177 x29 x31).f0.f1) ((rd_T177 x29 x31).f1)).bind fun t398 => ((impl_Fact_134.f k x1 ((rd_T177 x29 x31).f0.f0.f0) ((rd_T177 x29 x31).f0.f0.f1) ((rd_T177 x29 x31).f0.f1)).bind fun t399 => (if t399 ≥ 0 then (if 0 ≤ t399 then (if t399 < (x5.length : Int) then (if t398 < (rd x5 t399) then (impl_costs.l2 k x0 x1 (x5.set (t399 : Int).toNat t398) true x18 x19 x20 x29 x30 (wrap64 (x31 + 1))) else (impl_costs.l2 k x0 x1 x5 x6 x18 x19 x20 x29 x30 (wrap64 (x31 + 1)))) else (none)) else (none)) else (impl_costs.l2 k x0 x1 x5 x6 x18 x19 x20 x29 x30 (wrap64 (x31 + 1)))))) else (none)) else (none)) else (impl_costs.l1 k x0 x1 x5 x6 x18 x19 (wrap64 (x20 + 1)))
end
def impl_costs.f (k : Nat) (l0 : List (S46)) (l1 : List (S29)) : Option (List Int) := (slices_Repeat_int_int.f (([1000001] : List Int)) (l1.length : Int)).bind fun t387 => (impl_costs.l0 k l0 l1 t387 true)
set_option maxHeartbeats 8000000 in
set_option maxRecDepth 100000 in
theorem impl_costs.calls (k : Nat) (A0 : Option Addr) (c0 : Nat) (l0 : List (S46)) (A1 : Option Addr) (c1 : Nat) (l1 : List (S29)) (r : List Int) (w : World) (hr0 : Kd.C k46 w A0 l0.length l0) (hc0 : l0.length ≤ c0) (hr1 : Kd.C k29 w A1 l1.length l1) (hc1 : l1.length ≤ c1) (h : impl_costs.f k l0 l1 = some r) :
  Calls Try.prog 143 #[.slice A0 l0.length c0, .slice A1 l1.length c1] w fun e w' => ∃ v0_ : Value, e = .returned (v0_) ∧ Kd.R (Kd.int .i64) 3 w' w.heap.size (fun _ => True) v0_ r ∧ Below w.heap.size w w' := by
 have hu46 := Try.underlying46
 have hu177 := Try.underlying177
 have hu29 := Try.underlying29
 have HR0 := Aside0.mk hr0
 have HC0 := Aside0.mk hc0
 clear hr0 hc0
 have HR1 := Aside0.mk hr1
 have HC1 := Aside0.mk hc1
 clear hr1 hc1
 have HB := Aside0.mk (Below.refl w.heap.size w)
 have H : ((slices_Repeat_int_int.f (([1000001] : List Int)) (l1.length : Int)).bind fun t387 => (impl_costs.l0 k l0 l1 t387 true)) = some r := h
 clear h
 obtain ⟨y384, hy384⟩ : ∃ y_ : List Int, y_ = (([1000001] : List Int)) := ⟨_, rfl⟩
 replace H : ((slices_Repeat_int_int.f y384 (l1.length : Int)).bind fun t387 => (impl_costs.l0 k l0 l1 t387 true)) = some r := by first | (rw [hy384]; with_reducible exact H) | (have H2_ := (Option.bind_some _ _).symm.trans H; rw [hy384]; with_reducible exact H2_) | (have H2_ := (Option.bind_some _ _).symm.trans H; with_reducible exact H2_) | with_reducible exact H | (rw [hy384]; exact H) | exact H
 have Ny384 := Aside0.mk hy384
 clear hy384
 obtain ⟨t387, A3, H⟩ := bindE_ H
 have H' := Aside0.mk H
 clear H
 go_enter Try.func143, Try.ntmps143
 go_wp2_with (first | ((with_reducible refine gate_dst (N := 13) rfl ?_); refine Kd.R_lit (Kd.int .i64) _ 3 ?hg (N := 13) ?hd (xs := ([1000001] : List Int)) (inner := [.int .i64 1000001]) (ok := fun _ => True) (okp := fun _ => True) ?hr ?hp (fun _ hk => hk) trivial (Below.refl _ _) (Nat.le_refl _) (by simp) ?_; (case hd => rfl); (case hg => rfl); (case hr => first | (go_simp; done) | (go_simp; rfl)); (case hp => exact (Reps.one (show Kd.M (Kd.int .i64) _ _ _ 1000001 [.int .i64 1000001] from rfl) (Reps.none _ _))); intro v385 w4 ho5 hb hg_ hnew_; clear hg_ hnew_; (first | rw [← Ny384.out] at ho5 | (simp only [Int.reduceToNat] at ho5; rw [← Ny384.out] at ho5)); have HO386 := Aside0.mk (Kd.R_lower ho5 bls_); replace HB := hbs_ hb; clear hb ho5; obtain ⟨Ao6, co6, eo6⟩ := Kd.R_slice HO386.out; subst eo6) | ((with_reducible refine gate_callee (f := 151) rfl ?_); refine goesC_ (some 16) Try.func151 #[.slice Ao6 y384.length co6, .int .i64 (l1.length : Int)] ?_; (with_reducible refine (slices_Repeat_int_int.calls _ _ y384 (l1.length : Int) t387 _ ?side1 ?side2 A3.out).mono ?_); (case side1 => repeat (first | exact (Kd.R_reads' HO386.out).2.2 | (with_reducible refine Kd.C_alloc ?_ _) | (with_reducible refine Kd.C_drewN ?_ _) | (with_reducible refine Kd.C_drew ?_))); (case side2 => exact (Kd.R_reads' HO386.out).2.1); rintro e w7 ⟨v388, rfl, ho0, hb⟩; refine ⟨_, rfl, ?_⟩; have HO389 := Aside0.mk (Kd.R_lower (Kd.R_new' ho0 (Kd.R_lt (by (with_reducible repeat (first | apply Kd.R_alloc | apply Kd.R_drewN | apply Kd.R_drew)); exact HO386.out))) bls_); replace HO386 := Aside0.mk (Kd.R_elder' (by (with_reducible repeat (first | apply Kd.R_alloc | apply Kd.R_drewN | apply Kd.R_drew)); exact HO386.out) (Kd.R_base ho0) hb); replace HB := hbs_ hb; (try clear hb); (try clear hb2); (try clear hk); (try clear hi); (try clear ho0)))
 go_loopg [6] k (fun kq v6 w' => ∃ (x5_1 : List Int) (x6_1 : Bool), v6 = .bool x6_1 ∧ Aside0 (impl_costs.l0 kq l0 l1 x5_1 x6_1 = some r) ∧ Aside0 (kq ≤ k) ∧ Aside0 (Kd.R (Kd.int .i64) 3 w' w.heap.size (fun _ => True) v388 x5_1) ∧ Aside0 (Below w.heap.size w w'))
 case atStart => exact ⟨(t387), (true), rf_, H', ⟨Nat.le_refl _⟩, ⟨by (with_reducible repeat (first | apply Kd.R_alloc | apply Kd.R_drewN | apply Kd.R_drew)); exact Kd.R_mono HO389.out (fun _ hk => trivial)⟩, ⟨bl_⟩⟩
 case round =>
  clear H'
  try clear c1
  try clear p2
  obtain ⟨x5_1, x6_1, rfl, HA, HK1, HO_5, HB⟩ := hrel
  cases gk with
  | zero => exact absurd HA.out (by simp [impl_costs.l0])
  | succ k1 =>
   have H := HA.out
   clear HA
   simp only [impl_costs.l0] at H
   by_cases c8 : x6_1 = true
   ·subst c8
    replace H := ite_t_ H
    have H' := Aside0.mk H
    clear H
    go_wp2
    go_loopg [6, 20] k1 (fun kq v6 v20 w' => ∃ (x5_2 : List Int) (x6_2 : Bool) (x20_2 : Int), v6 = .bool x6_2 ∧ v20 = .int .i64 x20_2 ∧ Aside0 (impl_costs.l1 kq l0 l1 x5_2 x6_2 l0 (l0.length : Int) x20_2 = some r) ∧ Aside0 (kq ≤ k1) ∧ Aside0 (Kd.R (Kd.int .i64) 3 w' w.heap.size (fun _ => True) v388 x5_2) ∧ Aside0 (Below w.heap.size w w'))
    case atStart => exact ⟨(x5_1), (false), (0), rf_, rf_, H', ⟨Nat.le_refl _⟩, ⟨by (with_reducible repeat (first | apply Kd.R_alloc | apply Kd.R_drewN | apply Kd.R_drew)); exact HO_5.out⟩, ⟨bl_⟩⟩
    case round =>
     clear H'
     try clear c1
     try clear p2
     try clear c8
     try clear p2
     obtain ⟨x5_2, x6_2, x20_2, rfl, rfl, HA, HK2, HO_5, HB⟩ := hrel
     cases gk with
     | zero => exact absurd HA.out (by simp [impl_costs.l1])
     | succ k2 =>
      have H := HA.out
      clear HA
      simp only [impl_costs.l1] at H
      by_cases c9 : x20_2 < (l0.length : Int)
      ·rw [if_pos c9] at H
       have c9b0 : decide (x20_2 < (l0.length : Int)) = true := decide_eq_true c9
       clear c9
       obtain ⟨c10b0, H⟩ := ifd_ H
       obtain ⟨c11b0, H⟩ := ifd_ H
       obtain ⟨t392, A12, H⟩ := bindE_ H
       by_cases c13 : t392 = true
       ·subst c13
        replace H := ite_t_ H
        obtain ⟨t393, A14, H⟩ := bindE_ H
        have H' := Aside0.mk H
        clear H
        have p390 : 0 ≤ (x20_2 : Int) := od_
        have q390 : x20_2 < (l0.length : Int) := od_
        obtain ⟨ad390, e390, hx390_0, hx390_1, hx390_2, hx390_3, hx390_4, hx390_5, hx390_6, hx390_7, hx390_8, hx390_9⟩ := at_T46 (Kd.C_below HR0.out HB.out) x20_2 p390 q390
        cases e390
        replace p390 := eq_true p390
        replace q390 := eq_true q390
        go_wp2_with (first | ((with_reducible refine gate_dst (N := 8) rfl ?_); refine box_event ?hg (N := 8) ?hd (cs := #[.int .i64 0, .int .i64 0, .int .i64 0, .int .i64 0, .int .i64 0, .int .i64 0, .int .i64 0, .int .i64 0, .int .i64 0, .int .i64 0]) (t := 46) ?hr ?_; (case hd => rfl); (case hg => rfl); (case hr => first | (go_simp; done) | (go_simp; rfl)); intro gb391 hg w15 hbox hb; replace HO_5 := hob_ HO_5 hb; have BK391 := Aside0.mk (hbox); have GW391 := gs_ hg; have GE391 := gs_ hg; replace HB := hbs_ hb; clear hb hbox hg; have hcz16 := blk_cell BK391.out; have hfz16 := blk_frozen BK391.out) | ((with_reducible refine gate_callee (f := 75) rfl ?_); refine goesC_ (some 25) Try.func75 #[.agg #[.int .i64 ((rd_T46 l0 x20_2).f0), .int .i64 ((rd_T46 l0 x20_2).f1.f0), .int .i64 ((rd_T46 l0 x20_2).f1.f1), .int .i64 ((rd_T46 l0 x20_2).f2), .int .i64 ((rd_T46 l0 x20_2).f3.f0), .int .i64 ((rd_T46 l0 x20_2).f3.f1), .int .i64 ((rd_T46 l0 x20_2).f4.f0), .int .i64 ((rd_T46 l0 x20_2).f4.f1), .int .i64 ((rd_T46 l0 x20_2).f5), .int .i64 ((rd_T46 l0 x20_2).f6)]] ?_; (with_reducible refine (impl_CredOk.calls k2 ((rd_T46 l0 x20_2).f0) ((rd_T46 l0 x20_2).f1.f0) ((rd_T46 l0 x20_2).f1.f1) ((rd_T46 l0 x20_2).f2) ((rd_T46 l0 x20_2).f3.f0) ((rd_T46 l0 x20_2).f3.f1) ((rd_T46 l0 x20_2).f4.f0) ((rd_T46 l0 x20_2).f4.f1) ((rd_T46 l0 x20_2).f5) ((rd_T46 l0 x20_2).f6) true _ A12.out).mono ?_); rintro e w17 ⟨rfl, hb⟩; refine ⟨_, rfl, ?_⟩; replace HO_5 := Aside0.mk (Kd.R_below (by (with_reducible repeat (first | apply Kd.R_alloc | apply Kd.R_drewN | apply Kd.R_drew)); exact (Kd.R_mono (Kd.R_far (p := ⟨gb391, 9, none⟩) (Kd.R_far (p := ⟨gb391, 8, none⟩) (Kd.R_far (p := ⟨gb391, 7, none⟩) (Kd.R_far (p := ⟨gb391, 6, none⟩) (Kd.R_far (p := ⟨gb391, 5, none⟩) (Kd.R_far (p := ⟨gb391, 4, none⟩) (Kd.R_far (p := ⟨gb391, 3, none⟩) (Kd.R_far (p := ⟨gb391, 2, none⟩) (Kd.R_far (p := ⟨gb391, 1, none⟩) (Kd.R_far (p := ⟨gb391, 0, none⟩) (Kd.R_types HO_5.out BK391.out (by decide)) (fun _ hk => hk.2) (.int .i64 ((rd_T46 l0 x20_2).f0))) (fun _ hk => hk.2) (.int .i64 ((rd_T46 l0 x20_2).f1.f0))) (fun _ hk => hk.2) (.int .i64 ((rd_T46 l0 x20_2).f1.f1))) (fun _ hk => hk.2) (.int .i64 ((rd_T46 l0 x20_2).f2))) (fun _ hk => hk.2) (.int .i64 ((rd_T46 l0 x20_2).f3.f0))) (fun _ hk => hk.2) (.int .i64 ((rd_T46 l0 x20_2).f3.f1))) (fun _ hk => hk.2) (.int .i64 ((rd_T46 l0 x20_2).f4.f0))) (fun _ hk => hk.2) (.int .i64 ((rd_T46 l0 x20_2).f4.f1))) (fun _ hk => hk.2) (.int .i64 ((rd_T46 l0 x20_2).f5))) (fun _ hk => hk.2) (.int .i64 ((rd_T46 l0 x20_2).f6))) (fun _ h_ => h_.1))) hb); replace BK391 := Aside0.mk (blk_below (g := gb391) (o := .cells #[.int .i64 ((rd_T46 l0 x20_2).f0), .int .i64 ((rd_T46 l0 x20_2).f1.f0), .int .i64 ((rd_T46 l0 x20_2).f1.f1), .int .i64 ((rd_T46 l0 x20_2).f2), .int .i64 ((rd_T46 l0 x20_2).f3.f0), .int .i64 ((rd_T46 l0 x20_2).f3.f1), .int .i64 ((rd_T46 l0 x20_2).f4.f0), .int .i64 ((rd_T46 l0 x20_2).f4.f1), .int .i64 ((rd_T46 l0 x20_2).f5), .int .i64 ((rd_T46 l0 x20_2).f6)] 46 (0, 0)) (bk_ BK391) hb); replace HB := hbs_ hb; clear hb; have hcz18 := blk_cell BK391.out; have hfz18 := blk_frozen BK391.out) | ((with_reducible refine gate_callee (f := 147) rfl ?_); refine goesC_ (some 29) Try.func147 #[.slice A1 l1.length c1, .agg #[.int .i64 ((rd_T46 l0 x20_2).f0), .int .i64 ((rd_T46 l0 x20_2).f1.f0), .int .i64 ((rd_T46 l0 x20_2).f1.f1), .int .i64 ((rd_T46 l0 x20_2).f2), .int .i64 ((rd_T46 l0 x20_2).f3.f0), .int .i64 ((rd_T46 l0 x20_2).f3.f1), .int .i64 ((rd_T46 l0 x20_2).f4.f0), .int .i64 ((rd_T46 l0 x20_2).f4.f1), .int .i64 ((rd_T46 l0 x20_2).f5), .int .i64 ((rd_T46 l0 x20_2).f6)]] ?_; (with_reducible refine (impl_derive.calls k2 _ _ l1 ((rd_T46 l0 x20_2).f0) ((rd_T46 l0 x20_2).f1.f0) ((rd_T46 l0 x20_2).f1.f1) ((rd_T46 l0 x20_2).f2) ((rd_T46 l0 x20_2).f3.f0) ((rd_T46 l0 x20_2).f3.f1) ((rd_T46 l0 x20_2).f4.f0) ((rd_T46 l0 x20_2).f4.f1) ((rd_T46 l0 x20_2).f5) ((rd_T46 l0 x20_2).f6) t393 _ ?side1 ?side2 A14.out).mono ?_); (case side1 => repeat (first | exact (Kd.C_below HR1.out HB.out) | (with_reducible refine Kd.C_alloc ?_ _) | (with_reducible refine Kd.C_drewN ?_ _) | (with_reducible refine Kd.C_drew ?_))); (case side2 => exact HC1.out); rintro e w19 ⟨v394, rfl, ho0, hb⟩; refine ⟨_, rfl, ?_⟩; have HO395 := Aside0.mk (Kd.S_lower (Kd.S_new' ho0 (Kd.R_lt (by (with_reducible repeat (first | apply Kd.R_alloc | apply Kd.R_drewN | apply Kd.R_drew)); exact HO_5.out))) bls_); replace HO_5 := hob_ HO_5 hb; replace BK391 := bkb_ BK391 hb; replace HB := hbs_ hb; (try clear hb); (try clear hb2); (try clear hk); (try clear hi); (try clear ho0); obtain ⟨Ao20, co20, eo20⟩ := Kd.S_slice HO395.out; subst eo20))
        go_loopg [6, 31] k2 (fun kq v6 v31 w' => ∃ (x5_3 : List Int) (x6_3 : Bool) (x31_3 : Int), v6 = .bool x6_3 ∧ v31 = .int .i64 x31_3 ∧ Aside0 (impl_costs.l2 kq l0 l1 x5_3 x6_3 l0 (l0.length : Int) x20_2 t393 (t393.length : Int) x31_3 = some r) ∧ Aside0 (kq ≤ k2) ∧ Aside0 (Kd.R (Kd.int .i64) 3 w' w.heap.size (fun _ => True) v388 x5_3) ∧ Aside0 (Kd.S k177 177 w' w.heap.size (fun k_ => some k_ ≠ (v388 : Value).ownBlock) (.slice Ao20 t393.length co20) t393) ∧ Aside0 (w'.heap[gb391]? = some (.cells #[.int .i64 ((rd_T46 l0 x20_2).f0), .int .i64 ((rd_T46 l0 x20_2).f1.f0), .int .i64 ((rd_T46 l0 x20_2).f1.f1), .int .i64 ((rd_T46 l0 x20_2).f2), .int .i64 ((rd_T46 l0 x20_2).f3.f0), .int .i64 ((rd_T46 l0 x20_2).f3.f1), .int .i64 ((rd_T46 l0 x20_2).f4.f0), .int .i64 ((rd_T46 l0 x20_2).f4.f1), .int .i64 ((rd_T46 l0 x20_2).f5), .int .i64 ((rd_T46 l0 x20_2).f6)] 46 (0, 0))) ∧ Aside0 (Below w.heap.size w w'))
        case atStart => exact ⟨(x5_2), (x6_2), (0), rf_, rf_, H', ⟨Nat.le_refl _⟩, ⟨by (with_reducible repeat (first | apply Kd.R_alloc | apply Kd.R_drewN | apply Kd.R_drew)); exact HO_5.out⟩, ⟨by (with_reducible repeat (first | apply Kd.S_alloc | apply Kd.S_drewN | apply Kd.S_drew)); exact Kd.S_mono HO395.out (fun _ hk => hk.2)⟩, ⟨bk_ BK391⟩, ⟨bl_⟩⟩
        case round =>
         clear H'
         try clear c1
         try clear p2
         try clear p3
         try clear q3
         try clear hx3
         try clear c7
         try clear c8
         try clear c9
         try clear c9b0
         try clear c10
         try clear c10b0
         try clear c11
         try clear c11b0
         try clear c13
         try clear c14
         try clear c15
         try clear hcz16
         try clear hcz18
         try clear hfz16
         try clear hfz18
         try clear hx390_0
         try clear hx390_1
         try clear hx390_2
         try clear hx390_3
         try clear hx390_4
         try clear hx390_5
         try clear hx390_6
         try clear hx390_7
         try clear hx390_8
         try clear hx390_9
         try clear p2
         try clear p390
         try clear q390
         obtain ⟨x5_3, x6_3, x31_3, rfl, rfl, HA, HK3, HO_5, HO_29, BK391, HB⟩ := hrel
         cases gk with
         | zero => exact absurd HA.out (by simp [impl_costs.l2])
         | succ k3 =>
          have H := HA.out
          clear HA
          simp only [impl_costs.l2] at H
          by_cases c21 : x31_3 < (t393.length : Int)
          ·rw [if_pos c21] at H
           have c21b0 : decide (x31_3 < (t393.length : Int)) = true := decide_eq_true c21
           clear c21
           obtain ⟨c22b0, H⟩ := ifd_ H
           obtain ⟨c23b0, H⟩ := ifd_ H
           obtain ⟨t398, A24, H⟩ := bindE_ H
           obtain ⟨t399, A25, H⟩ := bindE_ H
           by_cases c26 : t399 ≥ 0
           ·rw [if_pos c26] at H
            have c26b0 : decide (0 ≤ t399) = true := decide_eq_true c26
            clear c26
            obtain ⟨c27b0, H⟩ := ifd_ H
            obtain ⟨c28b0, H⟩ := ifd_ H
            by_cases c29 : t398 < (rd x5_3 t399)
            ·rw [if_pos c29] at H
             have c29b0 : decide (t398 < (rd x5_3 t399)) = true := decide_eq_true c29
             clear c29
             obtain ⟨y401, hy401⟩ : ∃ y_ : List Int, y_ = (x5_3.set (t399 : Int).toNat t398) := ⟨_, rfl⟩
             replace H : (impl_costs.l2 k3 l0 l1 y401 true l0 (l0.length : Int) x20_2 t393 (t393.length : Int) (wrap64 (x31_3 + 1))) = some r := by first | (rw [hy401]; with_reducible exact H) | (have H2_ := (Option.bind_some _ _).symm.trans H; rw [hy401]; with_reducible exact H2_) | (have H2_ := (Option.bind_some _ _).symm.trans H; with_reducible exact H2_) | with_reducible exact H | (rw [hy401]; exact H) | exact H
             have Ny401 := Aside0.mk hy401
             clear hy401
             have H' := Aside0.mk H
             clear H
             have p396 : 0 ≤ (x31_3 : Int) := od_
             have q396 : x31_3 < (t393.length : Int) := od_
             obtain ⟨ad396, A396_3, c396_3, e396, hx396_0, hx396_1, hx396_2, hx396_3, hl396_3, hi396_3⟩ := at_T177 (Kd.S_reads' HO_29.out).2.2 x31_3 p396 q396
             cases e396
             obtain ⟨ce396, hce396, hMe396, hcc396⟩ := Kd.S_get HO_29.out z177 x31_3 p396 (by first | exact q396 | exact od_ | (have e_ := (Kd.S_reads' HO_29.out).1; omega))
             obtain ⟨ve396_3, rfl, ge396_3⟩ := k177_openM hMe396
             have hv396_3 := hcc396 3 _ rfl
             rw [add_field _ _ 3 (by omega)] at hv396_3
             replace hv396_3 := Option.some.inj (hv396_3.symm.trans hx396_3)
             rw [hv396_3] at ge396_3
             have HL396_3 := Aside0.mk (show Kd.R (Kd.int .i64) 3 _ _ _ _ ((rd_T177 t393 x31_3).f1) from ge396_3)
             clear hv396_3 ge396_3
             clear hcc396 hce396
             have HR396_3 := Aside0.mk hi396_3
             have HC396_3 := Aside0.mk hl396_3
             clear hi396_3 hl396_3
             replace p396 := eq_true p396
             replace q396 := eq_true q396
             go_wp2_with (first | ((with_reducible refine gate_dst (N := 10) rfl ?_); refine box_event ?hg (N := 10) ?hd (cs := #[.int .i64 0, .int .i64 0, .int .i64 0, .slice none 0 0]) (t := 177) ?hr ?_; (case hd => rfl); (case hg => rfl); (case hr => first | (go_simp; done) | (go_simp; rfl)); intro gb397 hg w31 hbox hb; replace HO_5 := hob_ HO_5 hb; replace HO_29 := Aside0.mk (Kd.S_below (Kd.S_elderB (by (with_reducible repeat (first | apply Kd.S_alloc | apply Kd.S_drewN | apply Kd.S_drew)); exact HO_29.out) gb397 (Nat.le_of_eq hg.symm)) hb); replace HL396_3 := Aside0.mk (Kd.R_below (by (with_reducible repeat (first | apply Kd.R_alloc | apply Kd.R_drewN | apply Kd.R_drew)); exact HL396_3.out) hb); replace HR396_3 := Aside0.mk (Kd.C_below (by repeat (first | (with_reducible exact HR396_3.out) | (with_reducible refine Kd.C_alloc ?_ _) | (with_reducible refine Kd.C_drewN ?_ _) | (with_reducible refine Kd.C_drew ?_) | exact HR396_3.out)) hb); have BK397 := Aside0.mk (hbox); have GW397 := gs_ hg; have GE397 := gs_ hg; replace HB := hbs_ hb; have NB391_397 := nl_ hg BK391; have NB397_391 := nr_ hg BK391; replace BK391 := bkb_ BK391 hb; clear hb hbox hg; have hnb32 := NB397_391.out; have hnc32 := NB391_397.out; have hcz33 := blk_cell BK397.out; have hfz33 := blk_frozen BK397.out; obtain ⟨Ao34, co34, eo34⟩ := Kd.R_slice HO_5.out; subst eo34) | ((with_reducible refine gate_callee (f := 152) rfl ?_); refine goesC_ (some 37) Try.func152 #[.slice Ao34 x5_3.length co34, .agg #[.int .i64 ((rd_T177 t393 x31_3).f0.f0.f0), .int .i64 ((rd_T177 t393 x31_3).f0.f0.f1), .int .i64 ((rd_T177 t393 x31_3).f0.f1), .slice A396_3 ((rd_T177 t393 x31_3).f1).length c396_3]] ?_; (with_reducible refine (impl_sizeBy.calls k3 _ _ x5_3 ((rd_T177 t393 x31_3).f0.f0.f0) ((rd_T177 t393 x31_3).f0.f0.f1) ((rd_T177 t393 x31_3).f0.f1) _ _ ((rd_T177 t393 x31_3).f1) t398 _ ?side1 ?side2 ?side3 ?side4 A24.out).mono ?_); (case side1 => refine (Kd.R_reads' (e := 3) (base := w.heap.size) (ok := fun k_ => True) (n := x5_3.length) (c := co34) ?_).2.2; exact (by (with_reducible repeat (first | apply Kd.R_alloc | apply Kd.R_drewN | apply Kd.R_drew)); exact (Kd.R_mono (Kd.R_far (p := ⟨gb397, 3, none⟩) (Kd.R_far (p := ⟨gb397, 2, none⟩) (Kd.R_far (p := ⟨gb397, 1, none⟩) (Kd.R_far (p := ⟨gb397, 0, none⟩) (Kd.R_types HO_5.out BK397.out (by decide)) (fun _ hk => hk.2) (.int .i64 ((rd_T177 t393 x31_3).f0.f0.f0))) (fun _ hk => hk.2) (.int .i64 ((rd_T177 t393 x31_3).f0.f0.f1))) (fun _ hk => hk.2) (.int .i64 ((rd_T177 t393 x31_3).f0.f1))) (fun _ hk => hk.2) (.slice A396_3 ((rd_T177 t393 x31_3).f1).length c396_3)) (fun _ h_ => h_.1)))); (case side2 => exact (Kd.R_reads' HO_5.out).2.1); (case side3 => repeat (first | exact ((Kd.R_reads' (by (with_reducible repeat (first | apply Kd.R_alloc | apply Kd.R_drewN | apply Kd.R_drew)); exact (Kd.R_mono (Kd.R_far (p := ⟨gb397, 3, none⟩) (Kd.R_far (p := ⟨gb397, 2, none⟩) (Kd.R_far (p := ⟨gb397, 1, none⟩) (Kd.R_far (p := ⟨gb397, 0, none⟩) (Kd.R_types HL396_3.out BK397.out (by decide)) (fun _ hk => hk.2) (.int .i64 ((rd_T177 t393 x31_3).f0.f0.f0))) (fun _ hk => hk.2) (.int .i64 ((rd_T177 t393 x31_3).f0.f0.f1))) (fun _ hk => hk.2) (.int .i64 ((rd_T177 t393 x31_3).f0.f1))) (fun _ hk => hk.2) (.slice A396_3 ((rd_T177 t393 x31_3).f1).length c396_3)) (fun _ h_ => h_.1)))).2.2) | (with_reducible refine Kd.C_alloc ?_ _) | (with_reducible refine Kd.C_drewN ?_ _) | (with_reducible refine Kd.C_drew ?_))); (case side4 => exact HC396_3.out); rintro e w35 ⟨rfl, hb⟩; refine ⟨_, rfl, ?_⟩; replace HO_5 := Aside0.mk (Kd.R_below (by (with_reducible repeat (first | apply Kd.R_alloc | apply Kd.R_drewN | apply Kd.R_drew)); exact (Kd.R_mono (Kd.R_far (p := ⟨gb397, 3, none⟩) (Kd.R_far (p := ⟨gb397, 2, none⟩) (Kd.R_far (p := ⟨gb397, 1, none⟩) (Kd.R_far (p := ⟨gb397, 0, none⟩) (Kd.R_types HO_5.out BK397.out (by decide)) (fun _ hk => hk.2) (.int .i64 ((rd_T177 t393 x31_3).f0.f0.f0))) (fun _ hk => hk.2) (.int .i64 ((rd_T177 t393 x31_3).f0.f0.f1))) (fun _ hk => hk.2) (.int .i64 ((rd_T177 t393 x31_3).f0.f1))) (fun _ hk => hk.2) (.slice A396_3 ((rd_T177 t393 x31_3).f1).length c396_3)) (fun _ h_ => h_.1))) hb); replace HO_29 := Aside0.mk (Kd.S_below (by (with_reducible repeat (first | apply Kd.S_alloc | apply Kd.S_drewN | apply Kd.S_drew)); exact (Kd.S_mono (Kd.S_far (p := ⟨gb397, 3, none⟩) (Kd.S_far (p := ⟨gb397, 2, none⟩) (Kd.S_far (p := ⟨gb397, 1, none⟩) (Kd.S_far (p := ⟨gb397, 0, none⟩) (Kd.S_mono HO_29.out (fun k_ hk => (⟨hk, hk.2⟩ : _ ∧ k_ ≠ gb397))) (fun _ hk => hk.2) (.int .i64 ((rd_T177 t393 x31_3).f0.f0.f0))) (fun _ hk => hk.2) (.int .i64 ((rd_T177 t393 x31_3).f0.f0.f1))) (fun _ hk => hk.2) (.int .i64 ((rd_T177 t393 x31_3).f0.f1))) (fun _ hk => hk.2) (.slice A396_3 ((rd_T177 t393 x31_3).f1).length c396_3)) (fun _ h_ => h_.1))) hb); replace BK391 := Aside0.mk (blk_below (g := gb391) (o := .cells #[.int .i64 ((rd_T46 l0 x20_2).f0), .int .i64 ((rd_T46 l0 x20_2).f1.f0), .int .i64 ((rd_T46 l0 x20_2).f1.f1), .int .i64 ((rd_T46 l0 x20_2).f2), .int .i64 ((rd_T46 l0 x20_2).f3.f0), .int .i64 ((rd_T46 l0 x20_2).f3.f1), .int .i64 ((rd_T46 l0 x20_2).f4.f0), .int .i64 ((rd_T46 l0 x20_2).f4.f1), .int .i64 ((rd_T46 l0 x20_2).f5), .int .i64 ((rd_T46 l0 x20_2).f6)] 46 (0, 0)) (bk_ BK391) hb); replace HR396_3 := Aside0.mk (Kd.C_below ((Kd.R_reads' (by (with_reducible repeat (first | apply Kd.R_alloc | apply Kd.R_drewN | apply Kd.R_drew)); exact (Kd.R_mono (Kd.R_far (p := ⟨gb397, 3, none⟩) (Kd.R_far (p := ⟨gb397, 2, none⟩) (Kd.R_far (p := ⟨gb397, 1, none⟩) (Kd.R_far (p := ⟨gb397, 0, none⟩) (Kd.R_types HL396_3.out BK397.out (by decide)) (fun _ hk => hk.2) (.int .i64 ((rd_T177 t393 x31_3).f0.f0.f0))) (fun _ hk => hk.2) (.int .i64 ((rd_T177 t393 x31_3).f0.f0.f1))) (fun _ hk => hk.2) (.int .i64 ((rd_T177 t393 x31_3).f0.f1))) (fun _ hk => hk.2) (.slice A396_3 ((rd_T177 t393 x31_3).f1).length c396_3)) (fun _ h_ => h_.1)))).2.2) hb); replace HL396_3 := Aside0.mk (Kd.R_below (by (with_reducible repeat (first | apply Kd.R_alloc | apply Kd.R_drewN | apply Kd.R_drew)); exact (Kd.R_mono (Kd.R_far (p := ⟨gb397, 3, none⟩) (Kd.R_far (p := ⟨gb397, 2, none⟩) (Kd.R_far (p := ⟨gb397, 1, none⟩) (Kd.R_far (p := ⟨gb397, 0, none⟩) (Kd.R_types HL396_3.out BK397.out (by decide)) (fun _ hk => hk.2) (.int .i64 ((rd_T177 t393 x31_3).f0.f0.f0))) (fun _ hk => hk.2) (.int .i64 ((rd_T177 t393 x31_3).f0.f0.f1))) (fun _ hk => hk.2) (.int .i64 ((rd_T177 t393 x31_3).f0.f1))) (fun _ hk => hk.2) (.slice A396_3 ((rd_T177 t393 x31_3).f1).length c396_3)) (fun _ h_ => h_.1))) hb); replace BK397 := Aside0.mk (blk_below (g := gb397) (o := .cells #[.int .i64 ((rd_T177 t393 x31_3).f0.f0.f0), .int .i64 ((rd_T177 t393 x31_3).f0.f0.f1), .int .i64 ((rd_T177 t393 x31_3).f0.f1), .slice A396_3 ((rd_T177 t393 x31_3).f1).length c396_3] 177 (0, 0)) (bk_ BK397) hb); replace HB := hbs_ hb; clear hb; have hcz36 := blk_cell BK397.out; have hfz36 := blk_frozen BK397.out) | ((with_reducible refine gate_callee (f := 134) rfl ?_); refine goesC_ (some 41) Try.func134 #[.slice A1 l1.length c1, .agg #[.int .i64 ((rd_T177 t393 x31_3).f0.f0.f0), .int .i64 ((rd_T177 t393 x31_3).f0.f0.f1), .int .i64 ((rd_T177 t393 x31_3).f0.f1)]] ?_; (with_reducible refine (impl_Fact_134.calls k3 _ _ l1 ((rd_T177 t393 x31_3).f0.f0.f0) ((rd_T177 t393 x31_3).f0.f0.f1) ((rd_T177 t393 x31_3).f0.f1) t399 _ ?side1 ?side2 A25.out).mono ?_); (case side1 => repeat (first | exact (Kd.C_below HR1.out HB.out) | (with_reducible refine Kd.C_alloc ?_ _) | (with_reducible refine Kd.C_drewN ?_ _) | (with_reducible refine Kd.C_drew ?_))); (case side2 => exact HC1.out); rintro e w37 ⟨rfl, hb⟩; refine ⟨_, rfl, ?_⟩; replace HO_5 := hob_ HO_5 hb; replace HO_29 := Aside0.mk (Kd.S_below (by (with_reducible repeat (first | apply Kd.S_alloc | apply Kd.S_drewN | apply Kd.S_drew)); exact HO_29.out) hb); replace HL396_3 := Aside0.mk (Kd.R_below (by (with_reducible repeat (first | apply Kd.R_alloc | apply Kd.R_drewN | apply Kd.R_drew)); exact HL396_3.out) hb); replace BK391 := bkb_ BK391 hb; replace HR396_3 := Aside0.mk (Kd.C_below (by repeat (first | (with_reducible exact HR396_3.out) | (with_reducible refine Kd.C_alloc ?_ _) | (with_reducible refine Kd.C_drewN ?_ _) | (with_reducible refine Kd.C_drew ?_) | exact HR396_3.out)) hb); replace BK397 := bkb_ BK397 hb; replace HB := hbs_ hb; clear hb; have p400 : 0 ≤ (t399 : Int) := od_; have q400 : t399 < (x5_3.length : Int) := od_; obtain ⟨ad400, e400, hx400_0⟩ := Kd.at_int (Kd.R_reads' HO_5.out).2.2 t399 p400 q400; cases e400; replace p400 := eq_true p400; replace q400 := eq_true q400; have p30 : 0 ≤ (t399 : Int) := od_; have q30 : (t399 : Int) < ((x5_3.length : Int) : Int) := od_; obtain ⟨go30, co30, eo30, gb30, gl30, cl30, HG30⟩ := Kd.R_form HO_5.out (by omega); (first | cases eo30 | (injection eo30 with ea_ en_ ec_; (first | subst ea_ | (injection ea_ with ea_; subst ea_)); subst ec_; clear en_)); have GB30 := Aside0.mk gb30; have GG30 := Aside0.mk HG30; clear gb30 gl30 HG30; (first | simp only [add_plain] at hx400_0 | skip); obtain ⟨hx30_0, hf30_0⟩ := Kd.R_celln 0 HO_5.out (t399 : Int) p30 q30; replace p30 := eq_true p30; replace q30 := eq_true q30; obtain ⟨hy38_, hz38_⟩ := Kd.R_celln 0 HO_5.out (t399 : Int) (od_) (od_); have HP38 := Kd.R_putg HO_5.out (t399 : Int) t398) | ((with_reducible refine gate_store (t := 3) (p := 55) rfl ?_); refine store_event (t := 3) (p := 55) (v := ?vo_w39) (w1 := (w37.setCell ⟨go30, (t399 : Int).toNat, none⟩ (.int .i64 t398))) ?hg ?ho ?hn ?hr ?_; (case ho => rfl); (case hg => rfl); (case hn => rfl); (case hr => first | (go_simp; done) | (go_simp; rfl)); intro w39 hw; have hg : w37.grownBy w39 (some go30) := (by rw [hw]; exact HP38.2); have hp_ : Kd.R (Kd.int .i64) 3 w39 w.heap.size (fun _ => True) (.slice (some ⟨go30, 0, none⟩) x5_3.length co34) y401 := (by rw [hw, Ny401.out]; exact HP38.1); clear HP38; replace HO_29 := Aside0.mk (Kd.S_after (v := (.slice (some ⟨go30, 0, none⟩) x5_3.length co34)) (v1 := (.slice (some ⟨go30, 0, none⟩) x5_3.length co34)) (ok := (fun k_ => k_ ≠ gb397)) (by (with_reducible repeat (first | apply Kd.S_alloc | apply Kd.S_drewN | apply Kd.S_drew)); exact Kd.S_mono HO_29.out (fun _ hk => ⟨hk.2, hk.1⟩)) hg (.inl rfl)); replace BK391 := Aside0.mk (blk_grown (g := gb391) (o := .cells #[.int .i64 ((rd_T46 l0 x20_2).f0), .int .i64 ((rd_T46 l0 x20_2).f1.f0), .int .i64 ((rd_T46 l0 x20_2).f1.f1), .int .i64 ((rd_T46 l0 x20_2).f2), .int .i64 ((rd_T46 l0 x20_2).f3.f0), .int .i64 ((rd_T46 l0 x20_2).f3.f1), .int .i64 ((rd_T46 l0 x20_2).f4.f0), .int .i64 ((rd_T46 l0 x20_2).f4.f1), .int .i64 ((rd_T46 l0 x20_2).f5), .int .i64 ((rd_T46 l0 x20_2).f6)] 46 (0, 0)) (bk_ BK391) hg (Kd.R_ne HO_5.out BK391.out (by decide))); replace HL396_3 := Aside0.mk (Kd.R_after (v := (.slice (some ⟨go30, 0, none⟩) x5_3.length co34)) (v1 := (.slice (some ⟨go30, 0, none⟩) x5_3.length co34)) (ok := (fun k_ => some k_ ≠ (.slice (some ad396) t393.length co20 : Value).ownBlock)) (by (with_reducible repeat (first | apply Kd.R_alloc | apply Kd.R_drewN | apply Kd.R_drew)); exact Kd.R_mono HL396_3.out (fun _ hk => ⟨hk.2, hk.1⟩)) hg (.inl rfl)); replace BK397 := Aside0.mk (blk_grown (g := gb397) (o := .cells #[.int .i64 ((rd_T177 t393 x31_3).f0.f0.f0), .int .i64 ((rd_T177 t393 x31_3).f0.f0.f1), .int .i64 ((rd_T177 t393 x31_3).f0.f1), .slice A396_3 ((rd_T177 t393 x31_3).f1).length c396_3] 177 (0, 0)) (bk_ BK397) hg (Kd.R_ne HO_5.out BK397.out (by decide))); replace HO_5 := Aside0.mk (hp_); replace HB := Aside0.mk ((by rw [hw]; exact below_set (HB.out) GB30.out : Below w.heap.size w w39)); clear hg hw hp_))
             go_roundg k3
             case measure => have := HK1.out; have := HK2.out; have := HK3.out; omega
             case rel => exact ⟨(y401), (true), (wrap64 (x31_3 + 1)), rf_, rf_, H', ⟨by have := HK1.out; have := HK2.out; have := HK3.out; omega⟩, ⟨by (with_reducible repeat (first | apply Kd.R_alloc | apply Kd.R_drewN | apply Kd.R_drew)); exact HO_5.out⟩, ⟨by (with_reducible repeat (first | apply Kd.S_alloc | apply Kd.S_drewN | apply Kd.S_drew)); exact Kd.S_mono HO_29.out (fun _ hk => hk.2)⟩, ⟨bk_ BK391⟩, ⟨bl_⟩⟩
            ·rw [if_neg c29] at H
             have c29b0 : decide (t398 < (rd x5_3 t399)) = false := decide_eq_false c29
             clear c29
             have H' := Aside0.mk H
             clear H
             have p396 : 0 ≤ (x31_3 : Int) := od_
             have q396 : x31_3 < (t393.length : Int) := od_
             obtain ⟨ad396, A396_3, c396_3, e396, hx396_0, hx396_1, hx396_2, hx396_3, hl396_3, hi396_3⟩ := at_T177 (Kd.S_reads' HO_29.out).2.2 x31_3 p396 q396
             cases e396
             obtain ⟨ce396, hce396, hMe396, hcc396⟩ := Kd.S_get HO_29.out z177 x31_3 p396 (by first | exact q396 | exact od_ | (have e_ := (Kd.S_reads' HO_29.out).1; omega))
             obtain ⟨ve396_3, rfl, ge396_3⟩ := k177_openM hMe396
             have hv396_3 := hcc396 3 _ rfl
             rw [add_field _ _ 3 (by omega)] at hv396_3
             replace hv396_3 := Option.some.inj (hv396_3.symm.trans hx396_3)
             rw [hv396_3] at ge396_3
             have HL396_3 := Aside0.mk (show Kd.R (Kd.int .i64) 3 _ _ _ _ ((rd_T177 t393 x31_3).f1) from ge396_3)
             clear hv396_3 ge396_3
             clear hcc396 hce396
             have HR396_3 := Aside0.mk hi396_3
             have HC396_3 := Aside0.mk hl396_3
             clear hi396_3 hl396_3
             replace p396 := eq_true p396
             replace q396 := eq_true q396
             go_wp2_with (first | ((with_reducible refine gate_dst (N := 10) rfl ?_); refine box_event ?hg (N := 10) ?hd (cs := #[.int .i64 0, .int .i64 0, .int .i64 0, .slice none 0 0]) (t := 177) ?hr ?_; (case hd => rfl); (case hg => rfl); (case hr => first | (go_simp; done) | (go_simp; rfl)); intro gb397 hg w40 hbox hb; replace HO_5 := hob_ HO_5 hb; replace HO_29 := Aside0.mk (Kd.S_below (Kd.S_elderB (by (with_reducible repeat (first | apply Kd.S_alloc | apply Kd.S_drewN | apply Kd.S_drew)); exact HO_29.out) gb397 (Nat.le_of_eq hg.symm)) hb); replace HL396_3 := Aside0.mk (Kd.R_below (by (with_reducible repeat (first | apply Kd.R_alloc | apply Kd.R_drewN | apply Kd.R_drew)); exact HL396_3.out) hb); replace HR396_3 := Aside0.mk (Kd.C_below (by repeat (first | (with_reducible exact HR396_3.out) | (with_reducible refine Kd.C_alloc ?_ _) | (with_reducible refine Kd.C_drewN ?_ _) | (with_reducible refine Kd.C_drew ?_) | exact HR396_3.out)) hb); have BK397 := Aside0.mk (hbox); have GW397 := gs_ hg; have GE397 := gs_ hg; replace HB := hbs_ hb; have NB391_397 := nl_ hg BK391; have NB397_391 := nr_ hg BK391; replace BK391 := bkb_ BK391 hb; clear hb hbox hg; have hnb41 := NB397_391.out; have hnc41 := NB391_397.out; have hcz42 := blk_cell BK397.out; have hfz42 := blk_frozen BK397.out; obtain ⟨Ao43, co43, eo43⟩ := Kd.R_slice HO_5.out; subst eo43) | ((with_reducible refine gate_callee (f := 152) rfl ?_); refine goesC_ (some 37) Try.func152 #[.slice Ao43 x5_3.length co43, .agg #[.int .i64 ((rd_T177 t393 x31_3).f0.f0.f0), .int .i64 ((rd_T177 t393 x31_3).f0.f0.f1), .int .i64 ((rd_T177 t393 x31_3).f0.f1), .slice A396_3 ((rd_T177 t393 x31_3).f1).length c396_3]] ?_; (with_reducible refine (impl_sizeBy.calls k3 _ _ x5_3 ((rd_T177 t393 x31_3).f0.f0.f0) ((rd_T177 t393 x31_3).f0.f0.f1) ((rd_T177 t393 x31_3).f0.f1) _ _ ((rd_T177 t393 x31_3).f1) t398 _ ?side1 ?side2 ?side3 ?side4 A24.out).mono ?_); (case side1 => refine (Kd.R_reads' (e := 3) (base := w.heap.size) (ok := fun k_ => True) (n := x5_3.length) (c := co43) ?_).2.2; exact (by (with_reducible repeat (first | apply Kd.R_alloc | apply Kd.R_drewN | apply Kd.R_drew)); exact (Kd.R_mono (Kd.R_far (p := ⟨gb397, 3, none⟩) (Kd.R_far (p := ⟨gb397, 2, none⟩) (Kd.R_far (p := ⟨gb397, 1, none⟩) (Kd.R_far (p := ⟨gb397, 0, none⟩) (Kd.R_types HO_5.out BK397.out (by decide)) (fun _ hk => hk.2) (.int .i64 ((rd_T177 t393 x31_3).f0.f0.f0))) (fun _ hk => hk.2) (.int .i64 ((rd_T177 t393 x31_3).f0.f0.f1))) (fun _ hk => hk.2) (.int .i64 ((rd_T177 t393 x31_3).f0.f1))) (fun _ hk => hk.2) (.slice A396_3 ((rd_T177 t393 x31_3).f1).length c396_3)) (fun _ h_ => h_.1)))); (case side2 => exact (Kd.R_reads' HO_5.out).2.1); (case side3 => repeat (first | exact ((Kd.R_reads' (by (with_reducible repeat (first | apply Kd.R_alloc | apply Kd.R_drewN | apply Kd.R_drew)); exact (Kd.R_mono (Kd.R_far (p := ⟨gb397, 3, none⟩) (Kd.R_far (p := ⟨gb397, 2, none⟩) (Kd.R_far (p := ⟨gb397, 1, none⟩) (Kd.R_far (p := ⟨gb397, 0, none⟩) (Kd.R_types HL396_3.out BK397.out (by decide)) (fun _ hk => hk.2) (.int .i64 ((rd_T177 t393 x31_3).f0.f0.f0))) (fun _ hk => hk.2) (.int .i64 ((rd_T177 t393 x31_3).f0.f0.f1))) (fun _ hk => hk.2) (.int .i64 ((rd_T177 t393 x31_3).f0.f1))) (fun _ hk => hk.2) (.slice A396_3 ((rd_T177 t393 x31_3).f1).length c396_3)) (fun _ h_ => h_.1)))).2.2) | (with_reducible refine Kd.C_alloc ?_ _) | (with_reducible refine Kd.C_drewN ?_ _) | (with_reducible refine Kd.C_drew ?_))); (case side4 => exact HC396_3.out); rintro e w44 ⟨rfl, hb⟩; refine ⟨_, rfl, ?_⟩; replace HO_5 := Aside0.mk (Kd.R_below (by (with_reducible repeat (first | apply Kd.R_alloc | apply Kd.R_drewN | apply Kd.R_drew)); exact (Kd.R_mono (Kd.R_far (p := ⟨gb397, 3, none⟩) (Kd.R_far (p := ⟨gb397, 2, none⟩) (Kd.R_far (p := ⟨gb397, 1, none⟩) (Kd.R_far (p := ⟨gb397, 0, none⟩) (Kd.R_types HO_5.out BK397.out (by decide)) (fun _ hk => hk.2) (.int .i64 ((rd_T177 t393 x31_3).f0.f0.f0))) (fun _ hk => hk.2) (.int .i64 ((rd_T177 t393 x31_3).f0.f0.f1))) (fun _ hk => hk.2) (.int .i64 ((rd_T177 t393 x31_3).f0.f1))) (fun _ hk => hk.2) (.slice A396_3 ((rd_T177 t393 x31_3).f1).length c396_3)) (fun _ h_ => h_.1))) hb); replace HO_29 := Aside0.mk (Kd.S_below (by (with_reducible repeat (first | apply Kd.S_alloc | apply Kd.S_drewN | apply Kd.S_drew)); exact (Kd.S_mono (Kd.S_far (p := ⟨gb397, 3, none⟩) (Kd.S_far (p := ⟨gb397, 2, none⟩) (Kd.S_far (p := ⟨gb397, 1, none⟩) (Kd.S_far (p := ⟨gb397, 0, none⟩) (Kd.S_mono HO_29.out (fun k_ hk => (⟨hk, hk.2⟩ : _ ∧ k_ ≠ gb397))) (fun _ hk => hk.2) (.int .i64 ((rd_T177 t393 x31_3).f0.f0.f0))) (fun _ hk => hk.2) (.int .i64 ((rd_T177 t393 x31_3).f0.f0.f1))) (fun _ hk => hk.2) (.int .i64 ((rd_T177 t393 x31_3).f0.f1))) (fun _ hk => hk.2) (.slice A396_3 ((rd_T177 t393 x31_3).f1).length c396_3)) (fun _ h_ => h_.1))) hb); replace BK391 := Aside0.mk (blk_below (g := gb391) (o := .cells #[.int .i64 ((rd_T46 l0 x20_2).f0), .int .i64 ((rd_T46 l0 x20_2).f1.f0), .int .i64 ((rd_T46 l0 x20_2).f1.f1), .int .i64 ((rd_T46 l0 x20_2).f2), .int .i64 ((rd_T46 l0 x20_2).f3.f0), .int .i64 ((rd_T46 l0 x20_2).f3.f1), .int .i64 ((rd_T46 l0 x20_2).f4.f0), .int .i64 ((rd_T46 l0 x20_2).f4.f1), .int .i64 ((rd_T46 l0 x20_2).f5), .int .i64 ((rd_T46 l0 x20_2).f6)] 46 (0, 0)) (bk_ BK391) hb); replace HR396_3 := Aside0.mk (Kd.C_below ((Kd.R_reads' (by (with_reducible repeat (first | apply Kd.R_alloc | apply Kd.R_drewN | apply Kd.R_drew)); exact (Kd.R_mono (Kd.R_far (p := ⟨gb397, 3, none⟩) (Kd.R_far (p := ⟨gb397, 2, none⟩) (Kd.R_far (p := ⟨gb397, 1, none⟩) (Kd.R_far (p := ⟨gb397, 0, none⟩) (Kd.R_types HL396_3.out BK397.out (by decide)) (fun _ hk => hk.2) (.int .i64 ((rd_T177 t393 x31_3).f0.f0.f0))) (fun _ hk => hk.2) (.int .i64 ((rd_T177 t393 x31_3).f0.f0.f1))) (fun _ hk => hk.2) (.int .i64 ((rd_T177 t393 x31_3).f0.f1))) (fun _ hk => hk.2) (.slice A396_3 ((rd_T177 t393 x31_3).f1).length c396_3)) (fun _ h_ => h_.1)))).2.2) hb); replace HL396_3 := Aside0.mk (Kd.R_below (by (with_reducible repeat (first | apply Kd.R_alloc | apply Kd.R_drewN | apply Kd.R_drew)); exact (Kd.R_mono (Kd.R_far (p := ⟨gb397, 3, none⟩) (Kd.R_far (p := ⟨gb397, 2, none⟩) (Kd.R_far (p := ⟨gb397, 1, none⟩) (Kd.R_far (p := ⟨gb397, 0, none⟩) (Kd.R_types HL396_3.out BK397.out (by decide)) (fun _ hk => hk.2) (.int .i64 ((rd_T177 t393 x31_3).f0.f0.f0))) (fun _ hk => hk.2) (.int .i64 ((rd_T177 t393 x31_3).f0.f0.f1))) (fun _ hk => hk.2) (.int .i64 ((rd_T177 t393 x31_3).f0.f1))) (fun _ hk => hk.2) (.slice A396_3 ((rd_T177 t393 x31_3).f1).length c396_3)) (fun _ h_ => h_.1))) hb); replace BK397 := Aside0.mk (blk_below (g := gb397) (o := .cells #[.int .i64 ((rd_T177 t393 x31_3).f0.f0.f0), .int .i64 ((rd_T177 t393 x31_3).f0.f0.f1), .int .i64 ((rd_T177 t393 x31_3).f0.f1), .slice A396_3 ((rd_T177 t393 x31_3).f1).length c396_3] 177 (0, 0)) (bk_ BK397) hb); replace HB := hbs_ hb; clear hb; have hcz45 := blk_cell BK397.out; have hfz45 := blk_frozen BK397.out) | ((with_reducible refine gate_callee (f := 134) rfl ?_); refine goesC_ (some 41) Try.func134 #[.slice A1 l1.length c1, .agg #[.int .i64 ((rd_T177 t393 x31_3).f0.f0.f0), .int .i64 ((rd_T177 t393 x31_3).f0.f0.f1), .int .i64 ((rd_T177 t393 x31_3).f0.f1)]] ?_; (with_reducible refine (impl_Fact_134.calls k3 _ _ l1 ((rd_T177 t393 x31_3).f0.f0.f0) ((rd_T177 t393 x31_3).f0.f0.f1) ((rd_T177 t393 x31_3).f0.f1) t399 _ ?side1 ?side2 A25.out).mono ?_); (case side1 => repeat (first | exact (Kd.C_below HR1.out HB.out) | (with_reducible refine Kd.C_alloc ?_ _) | (with_reducible refine Kd.C_drewN ?_ _) | (with_reducible refine Kd.C_drew ?_))); (case side2 => exact HC1.out); rintro e w46 ⟨rfl, hb⟩; refine ⟨_, rfl, ?_⟩; replace HO_5 := hob_ HO_5 hb; replace HO_29 := Aside0.mk (Kd.S_below (by (with_reducible repeat (first | apply Kd.S_alloc | apply Kd.S_drewN | apply Kd.S_drew)); exact HO_29.out) hb); replace HL396_3 := Aside0.mk (Kd.R_below (by (with_reducible repeat (first | apply Kd.R_alloc | apply Kd.R_drewN | apply Kd.R_drew)); exact HL396_3.out) hb); replace BK391 := bkb_ BK391 hb; replace HR396_3 := Aside0.mk (Kd.C_below (by repeat (first | (with_reducible exact HR396_3.out) | (with_reducible refine Kd.C_alloc ?_ _) | (with_reducible refine Kd.C_drewN ?_ _) | (with_reducible refine Kd.C_drew ?_) | exact HR396_3.out)) hb); replace BK397 := bkb_ BK397 hb; replace HB := hbs_ hb; clear hb; have p400 : 0 ≤ (t399 : Int) := od_; have q400 : t399 < (x5_3.length : Int) := od_; obtain ⟨ad400, e400, hx400_0⟩ := Kd.at_int (Kd.R_reads' HO_5.out).2.2 t399 p400 q400; cases e400; replace p400 := eq_true p400; replace q400 := eq_true q400))
             go_roundg k3
             case measure => have := HK1.out; have := HK2.out; have := HK3.out; omega
             case rel => exact ⟨(x5_3), (x6_3), (wrap64 (x31_3 + 1)), rf_, rf_, H', ⟨by have := HK1.out; have := HK2.out; have := HK3.out; omega⟩, ⟨by (with_reducible repeat (first | apply Kd.R_alloc | apply Kd.R_drewN | apply Kd.R_drew)); exact HO_5.out⟩, ⟨by (with_reducible repeat (first | apply Kd.S_alloc | apply Kd.S_drewN | apply Kd.S_drew)); exact Kd.S_mono HO_29.out (fun _ hk => hk.1)⟩, ⟨bk_ BK391⟩, ⟨bl_⟩⟩
           ·rw [if_neg c26] at H
            have c26b0 : decide (0 ≤ t399) = false := decide_eq_false c26
            clear c26
            have H' := Aside0.mk H
            clear H
            have p396 : 0 ≤ (x31_3 : Int) := od_
            have q396 : x31_3 < (t393.length : Int) := od_
            obtain ⟨ad396, A396_3, c396_3, e396, hx396_0, hx396_1, hx396_2, hx396_3, hl396_3, hi396_3⟩ := at_T177 (Kd.S_reads' HO_29.out).2.2 x31_3 p396 q396
            cases e396
            obtain ⟨ce396, hce396, hMe396, hcc396⟩ := Kd.S_get HO_29.out z177 x31_3 p396 (by first | exact q396 | exact od_ | (have e_ := (Kd.S_reads' HO_29.out).1; omega))
            obtain ⟨ve396_3, rfl, ge396_3⟩ := k177_openM hMe396
            have hv396_3 := hcc396 3 _ rfl
            rw [add_field _ _ 3 (by omega)] at hv396_3
            replace hv396_3 := Option.some.inj (hv396_3.symm.trans hx396_3)
            rw [hv396_3] at ge396_3
            have HL396_3 := Aside0.mk (show Kd.R (Kd.int .i64) 3 _ _ _ _ ((rd_T177 t393 x31_3).f1) from ge396_3)
            clear hv396_3 ge396_3
            clear hcc396 hce396
            have HR396_3 := Aside0.mk hi396_3
            have HC396_3 := Aside0.mk hl396_3
            clear hi396_3 hl396_3
            replace p396 := eq_true p396
            replace q396 := eq_true q396
            go_wp2_with (first | ((with_reducible refine gate_dst (N := 10) rfl ?_); refine box_event ?hg (N := 10) ?hd (cs := #[.int .i64 0, .int .i64 0, .int .i64 0, .slice none 0 0]) (t := 177) ?hr ?_; (case hd => rfl); (case hg => rfl); (case hr => first | (go_simp; done) | (go_simp; rfl)); intro gb397 hg w47 hbox hb; replace HO_5 := hob_ HO_5 hb; replace HO_29 := Aside0.mk (Kd.S_below (Kd.S_elderB (by (with_reducible repeat (first | apply Kd.S_alloc | apply Kd.S_drewN | apply Kd.S_drew)); exact HO_29.out) gb397 (Nat.le_of_eq hg.symm)) hb); replace HL396_3 := Aside0.mk (Kd.R_below (by (with_reducible repeat (first | apply Kd.R_alloc | apply Kd.R_drewN | apply Kd.R_drew)); exact HL396_3.out) hb); replace HR396_3 := Aside0.mk (Kd.C_below (by repeat (first | (with_reducible exact HR396_3.out) | (with_reducible refine Kd.C_alloc ?_ _) | (with_reducible refine Kd.C_drewN ?_ _) | (with_reducible refine Kd.C_drew ?_) | exact HR396_3.out)) hb); have BK397 := Aside0.mk (hbox); have GW397 := gs_ hg; have GE397 := gs_ hg; replace HB := hbs_ hb; have NB391_397 := nl_ hg BK391; have NB397_391 := nr_ hg BK391; replace BK391 := bkb_ BK391 hb; clear hb hbox hg; have hnb48 := NB397_391.out; have hnc48 := NB391_397.out; have hcz49 := blk_cell BK397.out; have hfz49 := blk_frozen BK397.out; obtain ⟨Ao50, co50, eo50⟩ := Kd.R_slice HO_5.out; subst eo50) | ((with_reducible refine gate_callee (f := 152) rfl ?_); refine goesC_ (some 37) Try.func152 #[.slice Ao50 x5_3.length co50, .agg #[.int .i64 ((rd_T177 t393 x31_3).f0.f0.f0), .int .i64 ((rd_T177 t393 x31_3).f0.f0.f1), .int .i64 ((rd_T177 t393 x31_3).f0.f1), .slice A396_3 ((rd_T177 t393 x31_3).f1).length c396_3]] ?_; (with_reducible refine (impl_sizeBy.calls k3 _ _ x5_3 ((rd_T177 t393 x31_3).f0.f0.f0) ((rd_T177 t393 x31_3).f0.f0.f1) ((rd_T177 t393 x31_3).f0.f1) _ _ ((rd_T177 t393 x31_3).f1) t398 _ ?side1 ?side2 ?side3 ?side4 A24.out).mono ?_); (case side1 => refine (Kd.R_reads' (e := 3) (base := w.heap.size) (ok := fun k_ => True) (n := x5_3.length) (c := co50) ?_).2.2; exact (by (with_reducible repeat (first | apply Kd.R_alloc | apply Kd.R_drewN | apply Kd.R_drew)); exact (Kd.R_mono (Kd.R_far (p := ⟨gb397, 3, none⟩) (Kd.R_far (p := ⟨gb397, 2, none⟩) (Kd.R_far (p := ⟨gb397, 1, none⟩) (Kd.R_far (p := ⟨gb397, 0, none⟩) (Kd.R_types HO_5.out BK397.out (by decide)) (fun _ hk => hk.2) (.int .i64 ((rd_T177 t393 x31_3).f0.f0.f0))) (fun _ hk => hk.2) (.int .i64 ((rd_T177 t393 x31_3).f0.f0.f1))) (fun _ hk => hk.2) (.int .i64 ((rd_T177 t393 x31_3).f0.f1))) (fun _ hk => hk.2) (.slice A396_3 ((rd_T177 t393 x31_3).f1).length c396_3)) (fun _ h_ => h_.1)))); (case side2 => exact (Kd.R_reads' HO_5.out).2.1); (case side3 => repeat (first | exact ((Kd.R_reads' (by (with_reducible repeat (first | apply Kd.R_alloc | apply Kd.R_drewN | apply Kd.R_drew)); exact (Kd.R_mono (Kd.R_far (p := ⟨gb397, 3, none⟩) (Kd.R_far (p := ⟨gb397, 2, none⟩) (Kd.R_far (p := ⟨gb397, 1, none⟩) (Kd.R_far (p := ⟨gb397, 0, none⟩) (Kd.R_types HL396_3.out BK397.out (by decide)) (fun _ hk => hk.2) (.int .i64 ((rd_T177 t393 x31_3).f0.f0.f0))) (fun _ hk => hk.2) (.int .i64 ((rd_T177 t393 x31_3).f0.f0.f1))) (fun _ hk => hk.2) (.int .i64 ((rd_T177 t393 x31_3).f0.f1))) (fun _ hk => hk.2) (.slice A396_3 ((rd_T177 t393 x31_3).f1).length c396_3)) (fun _ h_ => h_.1)))).2.2) | (with_reducible refine Kd.C_alloc ?_ _) | (with_reducible refine Kd.C_drewN ?_ _) | (with_reducible refine Kd.C_drew ?_))); (case side4 => exact HC396_3.out); rintro e w51 ⟨rfl, hb⟩; refine ⟨_, rfl, ?_⟩; replace HO_5 := Aside0.mk (Kd.R_below (by (with_reducible repeat (first | apply Kd.R_alloc | apply Kd.R_drewN | apply Kd.R_drew)); exact (Kd.R_mono (Kd.R_far (p := ⟨gb397, 3, none⟩) (Kd.R_far (p := ⟨gb397, 2, none⟩) (Kd.R_far (p := ⟨gb397, 1, none⟩) (Kd.R_far (p := ⟨gb397, 0, none⟩) (Kd.R_types HO_5.out BK397.out (by decide)) (fun _ hk => hk.2) (.int .i64 ((rd_T177 t393 x31_3).f0.f0.f0))) (fun _ hk => hk.2) (.int .i64 ((rd_T177 t393 x31_3).f0.f0.f1))) (fun _ hk => hk.2) (.int .i64 ((rd_T177 t393 x31_3).f0.f1))) (fun _ hk => hk.2) (.slice A396_3 ((rd_T177 t393 x31_3).f1).length c396_3)) (fun _ h_ => h_.1))) hb); replace HO_29 := Aside0.mk (Kd.S_below (by (with_reducible repeat (first | apply Kd.S_alloc | apply Kd.S_drewN | apply Kd.S_drew)); exact (Kd.S_mono (Kd.S_far (p := ⟨gb397, 3, none⟩) (Kd.S_far (p := ⟨gb397, 2, none⟩) (Kd.S_far (p := ⟨gb397, 1, none⟩) (Kd.S_far (p := ⟨gb397, 0, none⟩) (Kd.S_mono HO_29.out (fun k_ hk => (⟨hk, hk.2⟩ : _ ∧ k_ ≠ gb397))) (fun _ hk => hk.2) (.int .i64 ((rd_T177 t393 x31_3).f0.f0.f0))) (fun _ hk => hk.2) (.int .i64 ((rd_T177 t393 x31_3).f0.f0.f1))) (fun _ hk => hk.2) (.int .i64 ((rd_T177 t393 x31_3).f0.f1))) (fun _ hk => hk.2) (.slice A396_3 ((rd_T177 t393 x31_3).f1).length c396_3)) (fun _ h_ => h_.1))) hb); replace BK391 := Aside0.mk (blk_below (g := gb391) (o := .cells #[.int .i64 ((rd_T46 l0 x20_2).f0), .int .i64 ((rd_T46 l0 x20_2).f1.f0), .int .i64 ((rd_T46 l0 x20_2).f1.f1), .int .i64 ((rd_T46 l0 x20_2).f2), .int .i64 ((rd_T46 l0 x20_2).f3.f0), .int .i64 ((rd_T46 l0 x20_2).f3.f1), .int .i64 ((rd_T46 l0 x20_2).f4.f0), .int .i64 ((rd_T46 l0 x20_2).f4.f1), .int .i64 ((rd_T46 l0 x20_2).f5), .int .i64 ((rd_T46 l0 x20_2).f6)] 46 (0, 0)) (bk_ BK391) hb); replace HR396_3 := Aside0.mk (Kd.C_below ((Kd.R_reads' (by (with_reducible repeat (first | apply Kd.R_alloc | apply Kd.R_drewN | apply Kd.R_drew)); exact (Kd.R_mono (Kd.R_far (p := ⟨gb397, 3, none⟩) (Kd.R_far (p := ⟨gb397, 2, none⟩) (Kd.R_far (p := ⟨gb397, 1, none⟩) (Kd.R_far (p := ⟨gb397, 0, none⟩) (Kd.R_types HL396_3.out BK397.out (by decide)) (fun _ hk => hk.2) (.int .i64 ((rd_T177 t393 x31_3).f0.f0.f0))) (fun _ hk => hk.2) (.int .i64 ((rd_T177 t393 x31_3).f0.f0.f1))) (fun _ hk => hk.2) (.int .i64 ((rd_T177 t393 x31_3).f0.f1))) (fun _ hk => hk.2) (.slice A396_3 ((rd_T177 t393 x31_3).f1).length c396_3)) (fun _ h_ => h_.1)))).2.2) hb); replace HL396_3 := Aside0.mk (Kd.R_below (by (with_reducible repeat (first | apply Kd.R_alloc | apply Kd.R_drewN | apply Kd.R_drew)); exact (Kd.R_mono (Kd.R_far (p := ⟨gb397, 3, none⟩) (Kd.R_far (p := ⟨gb397, 2, none⟩) (Kd.R_far (p := ⟨gb397, 1, none⟩) (Kd.R_far (p := ⟨gb397, 0, none⟩) (Kd.R_types HL396_3.out BK397.out (by decide)) (fun _ hk => hk.2) (.int .i64 ((rd_T177 t393 x31_3).f0.f0.f0))) (fun _ hk => hk.2) (.int .i64 ((rd_T177 t393 x31_3).f0.f0.f1))) (fun _ hk => hk.2) (.int .i64 ((rd_T177 t393 x31_3).f0.f1))) (fun _ hk => hk.2) (.slice A396_3 ((rd_T177 t393 x31_3).f1).length c396_3)) (fun _ h_ => h_.1))) hb); replace BK397 := Aside0.mk (blk_below (g := gb397) (o := .cells #[.int .i64 ((rd_T177 t393 x31_3).f0.f0.f0), .int .i64 ((rd_T177 t393 x31_3).f0.f0.f1), .int .i64 ((rd_T177 t393 x31_3).f0.f1), .slice A396_3 ((rd_T177 t393 x31_3).f1).length c396_3] 177 (0, 0)) (bk_ BK397) hb); replace HB := hbs_ hb; clear hb; have hcz52 := blk_cell BK397.out; have hfz52 := blk_frozen BK397.out) | ((with_reducible refine gate_callee (f := 134) rfl ?_); refine goesC_ (some 41) Try.func134 #[.slice A1 l1.length c1, .agg #[.int .i64 ((rd_T177 t393 x31_3).f0.f0.f0), .int .i64 ((rd_T177 t393 x31_3).f0.f0.f1), .int .i64 ((rd_T177 t393 x31_3).f0.f1)]] ?_; (with_reducible refine (impl_Fact_134.calls k3 _ _ l1 ((rd_T177 t393 x31_3).f0.f0.f0) ((rd_T177 t393 x31_3).f0.f0.f1) ((rd_T177 t393 x31_3).f0.f1) t399 _ ?side1 ?side2 A25.out).mono ?_); (case side1 => repeat (first | exact (Kd.C_below HR1.out HB.out) | (with_reducible refine Kd.C_alloc ?_ _) | (with_reducible refine Kd.C_drewN ?_ _) | (with_reducible refine Kd.C_drew ?_))); (case side2 => exact HC1.out); rintro e w53 ⟨rfl, hb⟩; refine ⟨_, rfl, ?_⟩; replace HO_5 := hob_ HO_5 hb; replace HO_29 := Aside0.mk (Kd.S_below (by (with_reducible repeat (first | apply Kd.S_alloc | apply Kd.S_drewN | apply Kd.S_drew)); exact HO_29.out) hb); replace HL396_3 := Aside0.mk (Kd.R_below (by (with_reducible repeat (first | apply Kd.R_alloc | apply Kd.R_drewN | apply Kd.R_drew)); exact HL396_3.out) hb); replace BK391 := bkb_ BK391 hb; replace HR396_3 := Aside0.mk (Kd.C_below (by repeat (first | (with_reducible exact HR396_3.out) | (with_reducible refine Kd.C_alloc ?_ _) | (with_reducible refine Kd.C_drewN ?_ _) | (with_reducible refine Kd.C_drew ?_) | exact HR396_3.out)) hb); replace BK397 := bkb_ BK397 hb; replace HB := hbs_ hb; clear hb))
            go_roundg k3
            case measure => have := HK1.out; have := HK2.out; have := HK3.out; omega
            case rel => exact ⟨(x5_3), (x6_3), (wrap64 (x31_3 + 1)), rf_, rf_, H', ⟨by have := HK1.out; have := HK2.out; have := HK3.out; omega⟩, ⟨by (with_reducible repeat (first | apply Kd.R_alloc | apply Kd.R_drewN | apply Kd.R_drew)); exact HO_5.out⟩, ⟨by (with_reducible repeat (first | apply Kd.S_alloc | apply Kd.S_drewN | apply Kd.S_drew)); exact Kd.S_mono HO_29.out (fun _ hk => hk.1)⟩, ⟨bk_ BK391⟩, ⟨bl_⟩⟩
          ·rw [if_neg c21] at H
           have c21b0 : decide (x31_3 < (t393.length : Int)) = false := decide_eq_false c21
           clear c21
           have H' := Aside0.mk H
           clear H
           go_wp2
           go_roundg k3
           case measure => have := HK1.out; have := HK2.out; have := HK3.out; omega
           case rel => exact ⟨(x5_3), (x6_3), (wrap64 (x20_2 + 1)), rf_, rf_, H', ⟨by have := HK1.out; have := HK2.out; have := HK3.out; omega⟩, ⟨by (with_reducible repeat (first | apply Kd.R_alloc | apply Kd.R_drewN | apply Kd.R_drew)); exact HO_5.out⟩, ⟨bl_⟩⟩
       ·replace c13 := Bool.eq_false_iff.mpr c13
        subst c13
        replace H := ite_f_ H
        have H' := Aside0.mk H
        clear H
        have p390 : 0 ≤ (x20_2 : Int) := od_
        have q390 : x20_2 < (l0.length : Int) := od_
        obtain ⟨ad390, e390, hx390_0, hx390_1, hx390_2, hx390_3, hx390_4, hx390_5, hx390_6, hx390_7, hx390_8, hx390_9⟩ := at_T46 (Kd.C_below HR0.out HB.out) x20_2 p390 q390
        cases e390
        replace p390 := eq_true p390
        replace q390 := eq_true q390
        go_wp2_with (first | ((with_reducible refine gate_dst (N := 8) rfl ?_); refine box_event ?hg (N := 8) ?hd (cs := #[.int .i64 0, .int .i64 0, .int .i64 0, .int .i64 0, .int .i64 0, .int .i64 0, .int .i64 0, .int .i64 0, .int .i64 0, .int .i64 0]) (t := 46) ?hr ?_; (case hd => rfl); (case hg => rfl); (case hr => first | (go_simp; done) | (go_simp; rfl)); intro gb391 hg w54 hbox hb; replace HO_5 := hob_ HO_5 hb; have BK391 := Aside0.mk (hbox); have GW391 := gs_ hg; have GE391 := gs_ hg; replace HB := hbs_ hb; clear hb hbox hg; have hcz55 := blk_cell BK391.out; have hfz55 := blk_frozen BK391.out) | ((with_reducible refine gate_callee (f := 75) rfl ?_); refine goesC_ (some 25) Try.func75 #[.agg #[.int .i64 ((rd_T46 l0 x20_2).f0), .int .i64 ((rd_T46 l0 x20_2).f1.f0), .int .i64 ((rd_T46 l0 x20_2).f1.f1), .int .i64 ((rd_T46 l0 x20_2).f2), .int .i64 ((rd_T46 l0 x20_2).f3.f0), .int .i64 ((rd_T46 l0 x20_2).f3.f1), .int .i64 ((rd_T46 l0 x20_2).f4.f0), .int .i64 ((rd_T46 l0 x20_2).f4.f1), .int .i64 ((rd_T46 l0 x20_2).f5), .int .i64 ((rd_T46 l0 x20_2).f6)]] ?_; (with_reducible refine (impl_CredOk.calls k2 ((rd_T46 l0 x20_2).f0) ((rd_T46 l0 x20_2).f1.f0) ((rd_T46 l0 x20_2).f1.f1) ((rd_T46 l0 x20_2).f2) ((rd_T46 l0 x20_2).f3.f0) ((rd_T46 l0 x20_2).f3.f1) ((rd_T46 l0 x20_2).f4.f0) ((rd_T46 l0 x20_2).f4.f1) ((rd_T46 l0 x20_2).f5) ((rd_T46 l0 x20_2).f6) false _ A12.out).mono ?_); rintro e w56 ⟨rfl, hb⟩; refine ⟨_, rfl, ?_⟩; replace HO_5 := Aside0.mk (Kd.R_below (by (with_reducible repeat (first | apply Kd.R_alloc | apply Kd.R_drewN | apply Kd.R_drew)); exact (Kd.R_mono (Kd.R_far (p := ⟨gb391, 9, none⟩) (Kd.R_far (p := ⟨gb391, 8, none⟩) (Kd.R_far (p := ⟨gb391, 7, none⟩) (Kd.R_far (p := ⟨gb391, 6, none⟩) (Kd.R_far (p := ⟨gb391, 5, none⟩) (Kd.R_far (p := ⟨gb391, 4, none⟩) (Kd.R_far (p := ⟨gb391, 3, none⟩) (Kd.R_far (p := ⟨gb391, 2, none⟩) (Kd.R_far (p := ⟨gb391, 1, none⟩) (Kd.R_far (p := ⟨gb391, 0, none⟩) (Kd.R_types HO_5.out BK391.out (by decide)) (fun _ hk => hk.2) (.int .i64 ((rd_T46 l0 x20_2).f0))) (fun _ hk => hk.2) (.int .i64 ((rd_T46 l0 x20_2).f1.f0))) (fun _ hk => hk.2) (.int .i64 ((rd_T46 l0 x20_2).f1.f1))) (fun _ hk => hk.2) (.int .i64 ((rd_T46 l0 x20_2).f2))) (fun _ hk => hk.2) (.int .i64 ((rd_T46 l0 x20_2).f3.f0))) (fun _ hk => hk.2) (.int .i64 ((rd_T46 l0 x20_2).f3.f1))) (fun _ hk => hk.2) (.int .i64 ((rd_T46 l0 x20_2).f4.f0))) (fun _ hk => hk.2) (.int .i64 ((rd_T46 l0 x20_2).f4.f1))) (fun _ hk => hk.2) (.int .i64 ((rd_T46 l0 x20_2).f5))) (fun _ hk => hk.2) (.int .i64 ((rd_T46 l0 x20_2).f6))) (fun _ h_ => h_.1))) hb); replace BK391 := Aside0.mk (blk_below (g := gb391) (o := .cells #[.int .i64 ((rd_T46 l0 x20_2).f0), .int .i64 ((rd_T46 l0 x20_2).f1.f0), .int .i64 ((rd_T46 l0 x20_2).f1.f1), .int .i64 ((rd_T46 l0 x20_2).f2), .int .i64 ((rd_T46 l0 x20_2).f3.f0), .int .i64 ((rd_T46 l0 x20_2).f3.f1), .int .i64 ((rd_T46 l0 x20_2).f4.f0), .int .i64 ((rd_T46 l0 x20_2).f4.f1), .int .i64 ((rd_T46 l0 x20_2).f5), .int .i64 ((rd_T46 l0 x20_2).f6)] 46 (0, 0)) (bk_ BK391) hb); replace HB := hbs_ hb; clear hb))
        go_roundg k2
        case measure => have := HK1.out; have := HK2.out; omega
        case rel => exact ⟨(x5_2), (x6_2), (wrap64 (x20_2 + 1)), rf_, rf_, H', ⟨by have := HK1.out; have := HK2.out; omega⟩, ⟨by (with_reducible repeat (first | apply Kd.R_alloc | apply Kd.R_drewN | apply Kd.R_drew)); exact HO_5.out⟩, ⟨bl_⟩⟩
      ·rw [if_neg c9] at H
       have c9b0 : decide (x20_2 < (l0.length : Int)) = false := decide_eq_false c9
       clear c9
       have H' := Aside0.mk H
       clear H
       go_wp2
       go_roundg k2
       case measure => have := HK1.out; have := HK2.out; omega
       case rel => exact ⟨(x5_2), (x6_2), rf_, H', ⟨by have := HK1.out; have := HK2.out; omega⟩, ⟨by (with_reducible repeat (first | apply Kd.R_alloc | apply Kd.R_drewN | apply Kd.R_drew)); exact HO_5.out⟩, ⟨bl_⟩⟩
   ·replace c8 := Bool.eq_false_iff.mpr c8
    subst c8
    replace H := ite_f_ H
    obtain rfl := Option.some.inj H
    go_wp2
    go_ret
    exact ⟨_, eq_, by (with_reducible repeat (first | apply Kd.R_alloc | apply Kd.R_drewN | apply Kd.R_drew)); exact HO_5.out, bl_⟩
def impl_CostsOf.l0 : Nat → List Int → List (S142) → List (S29) → Int → Int → Option ((List (S142)))
 | 0, _, _, _, _, _ => none
 | k + 1, x4, x5, x14, x15, x16 => if x16 < x15 then (if 0 ≤ x16 then (if x16 < (x14.length : Int) then (if x16 < (x4.length : Int) then (if x5.length < 4398046511104 then (impl_CostsOf.l0 k x4 (x5 ++ [(⟨(⟨(⟨(rd_T29 x14 x16).f0.f0, (rd_T29 x14 x16).f0.f1⟩ : S27), (rd_T29 x14 x16).f1⟩ : S29), rd x4 x16⟩ : S142)]) x14 x15 (wrap64 (x16 + 1))) else (none)) else (none)) else (none)) else (none)) else (some x5)
def impl_CostsOf.f (k : Nat) (l0 : List (S46)) : Option ((List (S142))) := (impl_FactsOf.f k l0).bind fun t402 => ((impl_costs.f k l0 t402).bind fun t405 => (impl_CostsOf.l0 k t405 (([] : List (S142))) t402 (t402.length : Int) 0))
def impl_CostsOf.T7 : Bool × List (List Nat × List Nat) := (true, [([], []), ([], []), ([], []), ([], []), ([2, 3], [2, 3]), ([4], [4]), ([1, 5], [1, 5]), ([6], [6]), ([0, 7], [0, 7]), ([8, 8, 0, 1, 2, 3, 4, 5, 6, 7, 8], [0, 8])])
def impl_CostsOf.B7 : List Nat := [0, 0, 0, 0, 12, 28, 62, 126, 255, 511]
theorem impl_CostsOf.tab7 : rtab .any (opsOf Try.f119 7) = impl_CostsOf.T7 := by kernel_rfl
theorem impl_CostsOf.bits7 : waitsOk impl_CostsOf.T7.2 impl_CostsOf.B7 = true := by kernel_rfl
set_option maxHeartbeats 8000000 in
set_option maxRecDepth 100000 in
theorem impl_CostsOf.calls (k : Nat) (A0 : Option Addr) (c0 : Nat) (l0 : List (S46)) (r : List (S142)) (w : World) (hr0 : Kd.C k46 w A0 l0.length l0) (hc0 : l0.length ≤ c0) (h : impl_CostsOf.f k l0 = some r) :
  Calls Try.prog 119 #[.slice A0 l0.length c0] w fun e w' => ∃ v0_ : Value, e = .returned (v0_) ∧ Kd.R k142 142 w' w.heap.size (fun _ => True) v0_ r ∧ Below w.heap.size w w' := by
 have hu29 := Try.underlying29
 have hu142 := Try.underlying142
 have HR0 := Aside0.mk hr0
 have HC0 := Aside0.mk hc0
 clear hr0 hc0
 have HB := Aside0.mk (Below.refl w.heap.size w)
 have H : ((impl_FactsOf.f k l0).bind fun t402 => ((impl_costs.f k l0 t402).bind fun t405 => (impl_CostsOf.l0 k t405 (([] : List (S142))) t402 (t402.length : Int) 0))) = some r := h
 clear h
 obtain ⟨t402, A2, H⟩ := bindE_ H
 obtain ⟨t405, A3, H⟩ := bindE_ H
 obtain ⟨y408, hy408⟩ : ∃ y_ : List (S142), y_ = (([] : List (S142))) := ⟨_, rfl⟩
 replace H : (impl_CostsOf.l0 k t405 y408 t402 (t402.length : Int) 0) = some r := by first | (rw [hy408]; with_reducible exact H) | (have H2_ := (Option.bind_some _ _).symm.trans H; rw [hy408]; with_reducible exact H2_) | (have H2_ := (Option.bind_some _ _).symm.trans H; with_reducible exact H2_) | with_reducible exact H | (rw [hy408]; exact H) | exact H
 have Ny408 := Aside0.mk hy408
 clear hy408
 have H' := Aside0.mk H
 clear H
 go_enter Try.func119, Try.ntmps119
 go_wp2_with (first | ((with_reducible refine gate_callee (f := 101) rfl ?_); refine goesC_ (some 9) Try.func101 #[.slice A0 l0.length c0] ?_; (with_reducible refine (impl_FactsOf.calls k _ _ l0 t402 _ ?side1 ?side2 A2.out).mono ?_); (case side1 => repeat (first | exact HR0.out | (with_reducible refine Kd.C_alloc ?_ _) | (with_reducible refine Kd.C_drewN ?_ _) | (with_reducible refine Kd.C_drew ?_))); (case side2 => exact HC0.out); rintro e w4 ⟨v403, rfl, ho0, hb⟩; refine ⟨_, rfl, ?_⟩; have HO404 := Aside0.mk (Kd.R_lower ho0 bls_); replace HB := hbs_ hb; (try clear hb); (try clear hb2); (try clear hk); (try clear hi); (try clear ho0); obtain ⟨Ao5, co5, eo5⟩ := Kd.R_slice HO404.out; subst eo5) | ((with_reducible refine gate_callee (f := 143) rfl ?_); refine goesC_ (some 12) Try.func143 #[.slice A0 l0.length c0, .slice Ao5 t402.length co5] ?_; (with_reducible refine (impl_costs.calls k _ _ l0 _ _ t402 t405 _ ?side1 ?side2 ?side3 ?side4 A3.out).mono ?_); (case side1 => repeat (first | exact (Kd.C_below HR0.out HB.out) | (with_reducible refine Kd.C_alloc ?_ _) | (with_reducible refine Kd.C_drewN ?_ _) | (with_reducible refine Kd.C_drew ?_))); (case side2 => exact HC0.out); (case side3 => repeat (first | exact (Kd.R_reads' HO404.out).2.2 | (with_reducible refine Kd.C_alloc ?_ _) | (with_reducible refine Kd.C_drewN ?_ _) | (with_reducible refine Kd.C_drew ?_))); (case side4 => exact (Kd.R_reads' HO404.out).2.1); rintro e w6 ⟨v406, rfl, ho0, hb⟩; refine ⟨_, rfl, ?_⟩; replace HO404 := hob_ HO404 hb; have HO407 := Aside0.mk (Kd.R_lower ho0 bls_); replace HB := hbs_ hb; (try clear hb); (try clear hb2); (try clear hk); (try clear hi); (try clear ho0)) | ((with_reducible refine gate_dst (N := 13) rfl ?_); refine Kd.R_lit k142 _ 142 ?hg (N := 13) ?hd (xs := ([] : List (S142))) (inner := []) (ok := fun _ => True) (okp := fun _ => True) ?hr ?hp (fun _ hk => hk) trivial (Below.refl _ _) (Nat.le_refl _) (by simp) ?_; (case hd => rfl); (case hg => rfl); (case hr => first | (go_simp; done) | (go_simp; rfl)); (case hp => exact (Reps.none _ _)); intro v409 w7 ho8 hb hg_ hnew_; clear hg_ hnew_; (first | rw [← Ny408.out] at ho8 | (simp only [Int.reduceToNat] at ho8; rw [← Ny408.out] at ho8)); replace HO404 := hob_ HO404 hb; replace HO407 := hob_ HO407 hb; have HO410 := Aside0.mk (Kd.R_lower ho8 bls_); replace HB := hbs_ hb; clear hb ho8))
 go_loopg [5, 16] k (fun kq v5 v16 w' => ∃ (x5_1 : List (S142)) (x16_1 : Int), v16 = .int .i64 x16_1 ∧ Aside0 (impl_CostsOf.l0 kq t405 x5_1 t402 (t402.length : Int) x16_1 = some r) ∧ Aside0 (kq ≤ k) ∧ Aside0 (Kd.R (Kd.int .i64) 3 w' w.heap.size (fun _ => True) v406 t405) ∧ Aside0 (Kd.R k142 142 w' w.heap.size (fun _ => True) v5 x5_1) ∧ Aside0 (Kd.R k29 29 w' w.heap.size (fun _ => True) (.slice Ao5 t402.length co5) t402) ∧ Aside0 (Below w.heap.size w w'))
 case atStart => exact ⟨(y408), (0), rf_, H', ⟨Nat.le_refl _⟩, ⟨by (with_reducible repeat (first | apply Kd.R_alloc | apply Kd.R_drewN | apply Kd.R_drew)); exact HO407.out⟩, ⟨by (with_reducible repeat (first | apply Kd.R_alloc | apply Kd.R_drewN | apply Kd.R_drew)); exact HO410.out⟩, ⟨by (with_reducible repeat (first | apply Kd.R_alloc | apply Kd.R_drewN | apply Kd.R_drew)); exact HO404.out⟩, ⟨bl_⟩⟩
 case round =>
  clear H'
  try clear c1
  try clear p2
  obtain ⟨x5_1, x16_1, rfl, HA, HK1, HO_4, HO_5, HO_14, HB⟩ := hrel
  cases gk with
  | zero => exact absurd HA.out (by simp [impl_CostsOf.l0])
  | succ k1 =>
   have H := HA.out
   clear HA
   simp only [impl_CostsOf.l0] at H
   by_cases c9 : x16_1 < (t402.length : Int)
   ·rw [if_pos c9] at H
    have c9b0 : decide (x16_1 < (t402.length : Int)) = true := decide_eq_true c9
    clear c9
    obtain ⟨c10b0, H⟩ := ifd_ H
    obtain ⟨c11b0, H⟩ := ifd_ H
    obtain ⟨c12b0, H⟩ := ifd_ H
    obtain ⟨c13, H⟩ := ifn_ H
    have LMc13 := Aside0.mk c13
    clear c13
    obtain ⟨y414, hy414⟩ : ∃ y_ : List (S142), y_ = (x5_1 ++ [(⟨(⟨(⟨(rd_T29 t402 x16_1).f0.f0, (rd_T29 t402 x16_1).f0.f1⟩ : S27), (rd_T29 t402 x16_1).f1⟩ : S29), rd t405 x16_1⟩ : S142)]) := ⟨_, rfl⟩
    replace H : (impl_CostsOf.l0 k1 t405 y414 t402 (t402.length : Int) (wrap64 (x16_1 + 1))) = some r := by first | (rw [hy414]; with_reducible exact H) | (have H2_ := (Option.bind_some _ _).symm.trans H; rw [hy414]; with_reducible exact H2_) | (have H2_ := (Option.bind_some _ _).symm.trans H; with_reducible exact H2_) | with_reducible exact H | (rw [hy414]; exact H) | exact H
    have Ny414 := Aside0.mk hy414
    clear hy414
    have H' := Aside0.mk H
    clear H
    have p411 : 0 ≤ (x16_1 : Int) := od_
    have q411 : x16_1 < (t402.length : Int) := od_
    obtain ⟨ad411, e411, hx411_0, hx411_1, hx411_2⟩ := at_T29 (Kd.R_reads' HO_14.out).2.2 x16_1 p411 q411
    cases e411
    replace p411 := eq_true p411
    replace q411 := eq_true q411
    try go_wp2_with (first | ((with_reducible refine gate_dst (N := 7) rfl ?_); refine box_event ?hg (N := 7) ?hd (cs := #[.int .i64 0, .int .i64 0, .int .i64 0]) (t := 29) ?hr ?_; (case hd => rfl); (case hg => rfl); (case hr => first | (go_simp; done) | (go_simp; rfl)); intro gb412 hg w14 hbox hb; replace HO_4 := hob_ HO_4 hb; replace HO_5 := hob_ HO_5 hb; replace HO_14 := Aside0.mk (Kd.R_below (Kd.R_elderB (by (with_reducible repeat (first | apply Kd.R_alloc | apply Kd.R_drewN | apply Kd.R_drew)); exact HO_14.out) gb412 (Nat.le_of_eq hg.symm)) hb); have BK412 := Aside0.mk (hbox); have GW412 := gs_ hg; have GE412 := gs_ hg; replace HB := hbs_ hb; clear hb hbox hg; have hcz15 := blk_cell BK412.out; have hfz15 := blk_frozen BK412.out))
    have n0_ : Aside0 (Kd.R (Kd.int .i64) 3 (((w14.setCell ⟨gb412, 0, none⟩ (.int .i64 ((rd_T29 t402 x16_1).f0.f0))).setCell ⟨gb412, 1, none⟩ (.int .i64 ((rd_T29 t402 x16_1).f0.f1))).setCell ⟨gb412, 2, none⟩ (.int .i64 ((rd_T29 t402 x16_1).f1))) w.heap.size (fun _ => True) v406 t405) := ⟨by (with_reducible repeat (first | apply Kd.R_alloc | apply Kd.R_drewN | apply Kd.R_drew)); exact Kd.R_mono (Kd.R_far (p := ⟨gb412, 2, none⟩) (Kd.R_far (p := ⟨gb412, 1, none⟩) (Kd.R_far (p := ⟨gb412, 0, none⟩) (Kd.R_types HO_4.out BK412.out (by decide)) (fun _ hk => hk.2) (.int .i64 ((rd_T29 t402 x16_1).f0.f0))) (fun _ hk => hk.2) (.int .i64 ((rd_T29 t402 x16_1).f0.f1))) (fun _ hk => hk.2) (.int .i64 ((rd_T29 t402 x16_1).f1))) (fun _ hk => trivial)⟩
    have n1_ : Aside0 (Kd.R k142 142 (((w14.setCell ⟨gb412, 0, none⟩ (.int .i64 ((rd_T29 t402 x16_1).f0.f0))).setCell ⟨gb412, 1, none⟩ (.int .i64 ((rd_T29 t402 x16_1).f0.f1))).setCell ⟨gb412, 2, none⟩ (.int .i64 ((rd_T29 t402 x16_1).f1))) w.heap.size (fun _ => True) u5 x5_1) := ⟨by (with_reducible repeat (first | apply Kd.R_alloc | apply Kd.R_drewN | apply Kd.R_drew)); exact Kd.R_mono (Kd.R_far (p := ⟨gb412, 2, none⟩) (Kd.R_far (p := ⟨gb412, 1, none⟩) (Kd.R_far (p := ⟨gb412, 0, none⟩) (Kd.R_types HO_5.out BK412.out (by decide)) (fun _ hk => hk.2) (.int .i64 ((rd_T29 t402 x16_1).f0.f0))) (fun _ hk => hk.2) (.int .i64 ((rd_T29 t402 x16_1).f0.f1))) (fun _ hk => hk.2) (.int .i64 ((rd_T29 t402 x16_1).f1))) (fun _ hk => trivial)⟩
    have n2_ : Aside0 (Kd.R k29 29 (((w14.setCell ⟨gb412, 0, none⟩ (.int .i64 ((rd_T29 t402 x16_1).f0.f0))).setCell ⟨gb412, 1, none⟩ (.int .i64 ((rd_T29 t402 x16_1).f0.f1))).setCell ⟨gb412, 2, none⟩ (.int .i64 ((rd_T29 t402 x16_1).f1))) w.heap.size (fun k_ => k_ ≠ gb412) (.slice (some ad411) t402.length co5) t402) := ⟨by (with_reducible repeat (first | apply Kd.R_alloc | apply Kd.R_drewN | apply Kd.R_drew)); exact Kd.R_mono (Kd.R_far (p := ⟨gb412, 2, none⟩) (Kd.R_far (p := ⟨gb412, 1, none⟩) (Kd.R_far (p := ⟨gb412, 0, none⟩) (Kd.R_mono HO_14.out (fun k_ hk => (⟨hk, hk.2⟩ : _ ∧ k_ ≠ gb412))) (fun _ hk => hk.2) (.int .i64 ((rd_T29 t402 x16_1).f0.f0))) (fun _ hk => hk.2) (.int .i64 ((rd_T29 t402 x16_1).f0.f1))) (fun _ hk => hk.2) (.int .i64 ((rd_T29 t402 x16_1).f1))) (fun _ hk => hk.1.2)⟩
    have n3_ : Aside0 ((((w14.setCell ⟨gb412, 0, none⟩ (.int .i64 ((rd_T29 t402 x16_1).f0.f0))).setCell ⟨gb412, 1, none⟩ (.int .i64 ((rd_T29 t402 x16_1).f0.f1))).setCell ⟨gb412, 2, none⟩ (.int .i64 ((rd_T29 t402 x16_1).f1))).heap[gb412]? = some (.cells #[.int .i64 ((rd_T29 t402 x16_1).f0.f0), .int .i64 ((rd_T29 t402 x16_1).f0.f1), .int .i64 ((rd_T29 t402 x16_1).f1)] 29 (0, 0))) := ⟨bk_ BK412⟩
    have n4_ : Aside0 (Below w.heap.size w (((w14.setCell ⟨gb412, 0, none⟩ (.int .i64 ((rd_T29 t402 x16_1).f0.f0))).setCell ⟨gb412, 1, none⟩ (.int .i64 ((rd_T29 t402 x16_1).f0.f1))).setCell ⟨gb412, 2, none⟩ (.int .i64 ((rd_T29 t402 x16_1).f1)))) := ⟨bl_⟩
    (try clear HO_4)
    (try clear HO_5)
    (try clear HO_14)
    (try clear BK412)
    (try clear HB)
    generalize (((w14.setCell ⟨gb412, 0, none⟩ (.int .i64 ((rd_T29 t402 x16_1).f0.f0))).setCell ⟨gb412, 1, none⟩ (.int .i64 ((rd_T29 t402 x16_1).f0.f1))).setCell ⟨gb412, 2, none⟩ (.int .i64 ((rd_T29 t402 x16_1).f1))) = w16 at n0_ n1_ n2_ n3_ n4_ ⊢
    have HO_4 := n0_
    have HO_5 := n1_
    have HO_14 := n2_
    have BK412 := n3_
    have HB := n4_
    clear n0_ n1_ n2_ n3_ n4_
    replace HO_4 := Aside0.mk (Kd.R_drew HO_4.out)
    replace HO_5 := Aside0.mk (Kd.R_drew HO_5.out)
    replace HO_14 := Aside0.mk (Kd.R_drew HO_14.out)
    replace BK412 := Aside0.mk (blk_drew BK412.out)
    replace HB := Aside0.mk (below_drew1 HB.out)
    obtain ⟨Ao18, co18, eo18⟩ := Kd.R_slice HO_4.out
    (first | subst eo18 | (injection eo18 with f1_ f2_ f3_; have f4_ := f1_.symm; have f5_ := f3_.symm; clear f1_ f2_ f3_; subst f4_; subst f5_))
    have p413 : 0 ≤ (x16_1 : Int) := od_
    have q413 : x16_1 < (t405.length : Int) := od_
    obtain ⟨ad413, e413, hx413_0⟩ := Kd.at_int (Kd.R_reads' HO_4.out).2.2 x16_1 p413 q413
    cases e413
    replace p413 := eq_true p413
    replace q413 := eq_true q413
    refine start_ (n := 10) (S := fun w' => w'.cell? ⟨gb412, 0, none⟩ = some (.int .i64 ((rd_T29 t402 x16_1).f0.f0)) ∧ w'.cell? ⟨gb412, 1, none⟩ = some (.int .i64 ((rd_T29 t402 x16_1).f0.f1)) ∧ w'.cell? ⟨gb412, 2, none⟩ = some (.int .i64 ((rd_T29 t402 x16_1).f1)) ∧ w'.cell? (ad413.add (x16_1).toNat) = some (.int .i64 (rd t405 x16_1))) (ds := [7, 8]) #[false, false, false, false, false, false, false, false, false, false] (by kernel_rfl) rfl rfl ⟨(blk_cell BK412.out 0).trans rfl, (blk_cell BK412.out 1).trans rfl, (blk_cell BK412.out 2).trans rfl, hx413_0⟩ (fun hHeld => ?_); refine with_tabW impl_CostsOf.tab7 impl_CostsOf.bits7 (fun HT_ HW_ => ?_)
    generalize w16.drew = w17 at HO_4 HO_5 HO_14 BK412 HB hx413_0 hHeld ⊢
    refine pureZ_ (i := 0) (some 21) #[true, false, false, false, false, false, false, false, false, false] (any_of HT_.out (by kernel_rfl)) ?_
    refine pureZ_ (i := 2) (some 23) #[true, false, true, false, false, false, false, false, false, false] (any_of HT_.out (by kernel_rfl)) ?_
    refine pureZ_ (i := 3) (some 24) #[true, false, true, true, false, false, false, false, false, false] (any_of HT_.out (by kernel_rfl)) ?_
    refine pureZ_ (i := 4) (some 25) #[true, false, true, true, true, false, false, false, false, false] (any_of HT_.out (by kernel_rfl)) ?_
    refine takeZ_ (i := 1) (some 22) #[true, true, true, true, true, false, false, false, false, false] (take_ofW HT_.out HW_.out (by kernel_rfl)) hHeld ?_
    refine takeZ_ (i := 5) (some 26) #[true, true, true, true, true, true, false, false, false, false] (take_ofW HT_.out HW_.out (by kernel_rfl)) hHeld ?_
    refine pureZ_ (i := 6) (some 27) #[true, true, true, true, true, true, true, false, false, false] (any_of HT_.out (by kernel_rfl)) ?_
    refine last_ (i := 7) (N := some 28) #[true, true, true, true, true, true, true, true, false, false] rfl rfl (one_of HT_.out (by kernel_rfl)) (by decide) (fun K hK => ?_)
    refine value_ (w1 := ?_) (v := ?_) (by rfl) rfl ?_ ?_
    rotate_left 2
    ·go_simp
     constructor
     ·rfl
     ·rfl
    refine hK.out _ _ ?_
    clear hK K
    refine norm_ (a' := ?_) ?_ ?_
    rotate_left
    ·show Act.put _ (some 28) _ = _
     simp only [Act.put, List.setIfInBounds_toArray, List.set_cons_zero, List.set_cons_succ, i64_w, i32_w]
     rfl
    refine last_ (i := 8) (N := some 29) #[true, true, true, true, true, true, true, true, true, false] rfl rfl (one_of HT_.out (by kernel_rfl)) (by decide) (fun K hK => ?_)
    refine Kd.R_append_step k142 (w0 := w) w.heap.size (by rfl) (.tmp 21) (.tmp 28) 139 142 (.agg #[(.int .i64 0), (.int .i64 0), (.int .i64 0), (.int .i64 0)]) 32 rfl Try.underlying139 info142 rfl (by decide) (by omega) u5 x5_1 (⟨(⟨(⟨(rd_T29 t402 x16_1).f0.f0, (rd_T29 t402 x16_1).f0.f1⟩ : S27), (rd_T29 t402 x16_1).f1⟩ : S29), rd t405 x16_1⟩ : S142) [.int .i64 ((rd_T29 t402 x16_1).f0.f0), .int .i64 ((rd_T29 t402 x16_1).f0.f1), .int .i64 ((rd_T29 t402 x16_1).f1), .int .i64 (rd t405 x16_1)] (fun _ => True) (fun _ => False) rfl rfl ?aP (fun _ hk => hk.elim) ?aF ?aO ?aB ?aS ?aL ?_
    (case aP => exact k142_mkM _ _ _ (⟨(⟨(⟨(rd_T29 t402 x16_1).f0.f0, (rd_T29 t402 x16_1).f0.f1⟩ : S27), (rd_T29 t402 x16_1).f1⟩ : S29), rd t405 x16_1⟩ : S142))
    (case aB => exact bl_)
    (case aF => exact (fun _ _ => trivial))
    (case aO => exact (by (with_reducible repeat (first | apply Kd.R_alloc | apply Kd.R_drewN | apply Kd.R_drew)); exact HO_5.out))
    (case aS => exact bls_)
    (case aL => have := LMc13.out; omega)
    intro v415 w19 ho hb hg hat
    rw [← Ny414.out] at ho
    replace HO_4 := Aside0.mk (Kd.R_over' (by (with_reducible repeat (first | apply Kd.R_alloc | apply Kd.R_drewN | apply Kd.R_drew)); exact HO_4.out) (Kd.R_typed (by (with_reducible repeat (first | apply Kd.R_alloc | apply Kd.R_drewN | apply Kd.R_drew)); exact HO_5.out)) (by decide) hg)
    replace HO_14 := Aside0.mk (Kd.R_over' (by (with_reducible repeat (first | apply Kd.R_alloc | apply Kd.R_drewN | apply Kd.R_drew)); exact HO_14.out) (Kd.R_typed (by (with_reducible repeat (first | apply Kd.R_alloc | apply Kd.R_drewN | apply Kd.R_drew)); exact HO_5.out)) (by decide) hg)
    replace BK412 := Aside0.mk (blk_grown (g := gb412) (o := .cells #[.int .i64 ((rd_T29 t402 x16_1).f0.f0), .int .i64 ((rd_T29 t402 x16_1).f0.f1), .int .i64 ((rd_T29 t402 x16_1).f1)] 29 (0, 0)) (bk_ BK412) hg (Kd.R_ne HO_5.out BK412.out (by decide)))
    replace HB := Aside0.mk (hb)
    have HO416 := Aside0.mk (ho)
    clear HO_5
    clear ho hb hg hat
    refine hK.out _ _ ?_
    clear hK K
    refine norm_ (a' := ?_) ?_ ?_
    rotate_left
    ·show Act.put _ (some 29) _ = _
     simp only [Act.put, List.setIfInBounds_toArray, List.set_cons_zero, List.set_cons_succ, i64_w, i32_w]
     rfl
    refine pureZ_ (i := 9) (some 5) #[true, true, true, true, true, true, true, true, true, true] (any_of HT_.out (by kernel_rfl)) ?_
    refine done_ (done_of HT_.out (by kernel_rfl)) ?_
    try go_wp2
    go_roundg k1
    case measure => have := HK1.out; omega
    case rel => exact ⟨(y414), (wrap64 (x16_1 + 1)), rf_, H', ⟨by have := HK1.out; omega⟩, ⟨by (with_reducible repeat (first | apply Kd.R_alloc | apply Kd.R_drewN | apply Kd.R_drew)); exact HO_4.out⟩, ⟨by (with_reducible repeat (first | apply Kd.R_alloc | apply Kd.R_drewN | apply Kd.R_drew)); exact HO416.out⟩, ⟨by (with_reducible repeat (first | apply Kd.R_alloc | apply Kd.R_drewN | apply Kd.R_drew)); exact Kd.R_mono HO_14.out (fun _ hk => trivial)⟩, ⟨bl_⟩⟩
   ·rw [if_neg c9] at H
    have c9b0 : decide (x16_1 < (t402.length : Int)) = false := decide_eq_false c9
    clear c9
    obtain rfl := Option.some.inj H
    go_wp2
    go_ret
    exact ⟨_, eq_, by (with_reducible repeat (first | apply Kd.R_alloc | apply Kd.R_drewN | apply Kd.R_drew)); exact HO_5.out, bl_⟩
end Go.Proofs.Ytppdmcimddhbaaa.PG
