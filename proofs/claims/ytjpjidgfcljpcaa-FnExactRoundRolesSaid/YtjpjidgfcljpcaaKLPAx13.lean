import Derived.Test.YtjpjidgfcljpcaaKLPAx3
import Derived.Test.YtjpjidgfcljpcaaKLPAx12
-- printed by wip/tools
namespace Go.Proofs.Ytjpjidgfcljpcaa.PA
open Go.RowKit Go.Proofs.YtjpjidgfcljpcaaW.PrintWords Go.Proofs.YtjpjidgfcljpcaaW.PrintLast Go.Proofs.YtjpjidgfcljpcaaW.PrintMore
attribute [local go_sem] max2_int min2_int max_two min_two max_three min_three max_four min_four
set_option linter.unusedVariables false
set_option linter.unusedSimpArgs false
attribute [local go_sem high] eqA49
mutual
def spec_LeansOn.l0 : Nat → List (S56) → List (S49) → List (S51) → Int → Int → Int → Option ((List (S49)))
 | 0, _, _, _, _, _, _ => none
 | k + 1, x0, x5, x6, x7, x386000, x386001 => if x7 < (x0.length : Int) then (if 0 ≤ x7 then (if (!(((rd_T56 x0 x7).f1.f0) == x386000) || (!(((rd_T56 x0 x7).f1.f1) == x386001))) = true then (spec_LeansOn.j1 k x0 x5 x6 x7 true x386000 x386001 ((rd_T56 x0 x7).f0) ((rd_T56 x0 x7).f1.f0) ((rd_T56 x0 x7).f1.f1) ((rd_T56 x0 x7).f2) ((rd_T56 x0 x7).f3.f0) ((rd_T56 x0 x7).f3.f1) ((rd_T56 x0 x7).f4.f0) ((rd_T56 x0 x7).f4.f1) ((rd_T56 x0 x7).f5) ((rd_T56 x0 x7).f6)) else ((spec_CredOk.f k ((rd_T56 x0 x7).f0) ((rd_T56 x0 x7).f1.f0) ((rd_T56 x0 x7).f1.f1) ((rd_T56 x0 x7).f2) ((rd_T56 x0 x7).f3.f0) ((rd_T56 x0 x7).f3.f1) ((rd_T56 x0 x7).f4.f0) ((rd_T56 x0 x7).f4.f1) ((rd_T56 x0 x7).f5) ((rd_T56 x0 x7).f6)).bind fun t394 => (if t394 = true then (spec_LeansOn.j1 k x0 x5 x6 x7 (((rd_T56 x0 x7).f0) == 1) x386000 x386001 ((rd_T56 x0 x7).f0) ((rd_T56 x0 x7).f1.f0) ((rd_T56 x0 x7).f1.f1) ((rd_T56 x0 x7).f2) ((rd_T56 x0 x7).f3.f0) ((rd_T56 x0 x7).f3.f1) ((rd_T56 x0 x7).f4.f0) ((rd_T56 x0 x7).f4.f1) ((rd_T56 x0 x7).f5) ((rd_T56 x0 x7).f6)) else (spec_LeansOn.j1 k x0 x5 x6 x7 true x386000 x386001 ((rd_T56 x0 x7).f0) ((rd_T56 x0 x7).f1.f0) ((rd_T56 x0 x7).f1.f1) ((rd_T56 x0 x7).f2) ((rd_T56 x0 x7).f3.f0) ((rd_T56 x0 x7).f3.f1) ((rd_T56 x0 x7).f4.f0) ((rd_T56 x0 x7).f4.f1) ((rd_T56 x0 x7).f5) ((rd_T56 x0 x7).f6))))) else (none)) else (some x5)
def spec_LeansOn.j1 : Nat → List (S56) → List (S49) → List (S51) → Int → Bool → Int → Int → Int → Int → Int → Int → Int → Int → Int → Int → Int → Int → Option ((List (S49)))
 | 0, _, _, _, _, _, _, _, _, _, _, _, _, _, _, _, _, _ => none
 | k + 1, x0, x5, x6, x7, x36, x386000, x386001, x394000, x394001, x394002, x394003, x394004, x394005, x394006, x394007, x394008, x394009 => if x36 = true then (spec_LeansOn.l0 k x0 x5 x6 (wrap64 (x7 + 1)) x386000 x386001) else ((spec_l18Add.f k x5 x394004 x394005).bind fun t395 => (if x394000 = 4 then ((spec_l18Add.f k t395 x394006 x394007).bind fun t398 => (spec_LeansOn.j2 k x0 t398 x6 x7 x386000 x386001 x394000 x394001 x394002 x394003 x394004 x394005 x394006 x394007 x394008 x394009)) else (spec_LeansOn.j2 k x0 t395 x6 x7 x386000 x386001 x394000 x394001 x394002 x394003 x394004 x394005 x394006 x394007 x394008 x394009)))
def spec_LeansOn.j2 : Nat → List (S56) → List (S49) → List (S51) → Int → Int → Int → Int → Int → Int → Int → Int → Int → Int → Int → Int → Int → Option ((List (S49)))
 | 0, _, _, _, _, _, _, _, _, _, _, _, _, _, _, _, _ => none
 | k + 1, x0, x5, x6, x7, x386000, x386001, x394000, x394001, x394002, x394003, x394004, x394005, x394006, x394007, x394008, x394009 => spec_LeansOn.l1 k x0 x5 x6 x7 0 x386000 x386001 x394000 x394001 x394002 x394003 x394004 x394005 x394006 x394007 x394008 x394009
def spec_LeansOn.l1 : Nat → List (S56) → List (S49) → List (S51) → Int → Int → Int → Int → Int → Int → Int → Int → Int → Int → Int → Int → Int → Int → Option ((List (S49)))
 | 0, _, _, _, _, _, _, _, _, _, _, _, _, _, _, _, _, _ => none
 | k + 1, x0, x5, x6, x7, x9, x386000, x386001, x394000, x394001, x394002, x394003, x394004, x394005, x394006, x394007, x394008, x394009 => if x9 < 6 then (spec_LeansOn.j4 k x0 x5 x6 x7 x9 (x394000 == 3) x386000 x386001 x394000 x394001 x394002 x394003 x394004 x394005 x394006 x394007 x394008 x394009) else (spec_LeansOn.j4 k x0 x5 x6 x7 x9 false x386000 x386001 x394000 x394001 x394002 x394003 x394004 x394005 x394006 x394007 x394008 x394009)
def spec_LeansOn.j4 : Nat → List (S56) → List (S49) → List (S51) → Int → Int → Bool → Int → Int → Int → Int → Int → Int → Int → Int → Int → Int → Int → Int → Option ((List (S49)))
 | 0, _, _, _, _, _, _, _, _, _, _, _, _, _, _, _, _, _, _ => none
 | k + 1, x0, x5, x6, x7, x9, x54, x386000, x386001, x394000, x394001, x394002, x394003, x394004, x394005, x394006, x394007, x394008, x394009 => if x54 = true then ((spec_l06Has.f k x6 x394004 x394005 x9).bind fun t401 => (if t401 = true then ((spec_l18Add.f k x5 x9 x394007).bind fun t402 => (spec_LeansOn.l1 k x0 t402 x6 x7 (wrap64 (x9 + 1)) x386000 x386001 x394000 x394001 x394002 x394003 x394004 x394005 x394006 x394007 x394008 x394009)) else (spec_LeansOn.l1 k x0 x5 x6 x7 (wrap64 (x9 + 1)) x386000 x386001 x394000 x394001 x394002 x394003 x394004 x394005 x394006 x394007 x394008 x394009))) else (spec_LeansOn.l0 k x0 x5 x6 (wrap64 (x7 + 1)) x386000 x386001)
end
def spec_LeansOn.f (k : Nat) (l0 : List (S56)) (a1_0 : Int) (a1_1 : Int) : Option ((List (S49))) := (spec_FactsOf.f k l0).bind fun t389 => (spec_LeansOn.l0 k l0 (([] : List (S49))) t389 0 a1_0 a1_1)
set_option maxHeartbeats 8000000 in
set_option maxRecDepth 100000 in
theorem spec_LeansOn.calls (k : Nat) (A0 : Option Addr) (c0 : Nat) (l0 : List (S56)) (a1_0 : Int) (a1_1 : Int) (r : List (S49)) (w : World) (hr0 : Kd.C k56 w A0 l0.length l0) (hc0 : l0.length ≤ c0) (h : spec_LeansOn.f k l0 a1_0 a1_1 = some r) :
  Calls Try.prog 70 #[.slice A0 l0.length c0, .agg #[.int .i64 a1_0, .int .i64 a1_1]] w fun e w' => ∃ v0_ : Value, e = .returned (v0_) ∧ Kd.R k49 49 w' w.heap.size (fun _ => True) v0_ r ∧ Below w.heap.size w w' := by
 have hu49 := Try.underlying49
 have hu56 := Try.underlying56
 have hu51 := Try.underlying51
 have HR0 := Aside0.mk hr0
 have HC0 := Aside0.mk hc0
 clear hr0 hc0
 have HB := Aside0.mk (Below.refl w.heap.size w)
 have H : ((spec_FactsOf.f k l0).bind fun t389 => (spec_LeansOn.l0 k l0 (([] : List (S49))) t389 0 a1_0 a1_1)) = some r := h
 clear h
 obtain ⟨y386, hy386⟩ : ∃ y_ : List (S49), y_ = (([] : List (S49))) := ⟨_, rfl⟩
 replace H : ((spec_FactsOf.f k l0).bind fun t389 => (spec_LeansOn.l0 k l0 y386 t389 0 a1_0 a1_1)) = some r := by first | (rw [hy386]; with_reducible exact H) | (have H2_ := (Option.bind_some _ _).symm.trans H; rw [hy386]; with_reducible exact H2_) | (have H2_ := (Option.bind_some _ _).symm.trans H; with_reducible exact H2_) | with_reducible exact H | (rw [hy386]; exact H) | exact H
 have Ny386 := Aside0.mk hy386
 clear hy386
 obtain ⟨t389, A3, H⟩ := bindE_ H
 have H' := Aside0.mk H
 clear H
 go_enter Try.func70, Try.ntmps70
 go_wp2_with (first | ((with_reducible refine gate_dst (N := 3) rfl ?_); refine box_event ?hg (N := 3) ?hd (cs := #[.int .i64 a1_0, .int .i64 a1_1]) (t := 49) ?hr ?_; (case hd => rfl); (case hg => rfl); (case hr => first | (go_simp; done) | (go_simp; rfl)); intro gb385 hg w4 hbox hb; have BK385 := Aside0.mk (hbox); have GW385 := gs_ hg; have GE385 := gs_ hg; replace HB := hbs_ hb; clear hb hbox hg) | ((with_reducible refine gate_dst (N := 10) rfl ?_); refine Kd.R_lit k49 _ 49 ?hg (N := 10) ?hd (xs := ([] : List (S49))) (inner := []) (ok := fun _ => True) (okp := fun _ => True) ?hr ?hp (fun _ hk => hk) trivial (Below.refl _ _) (Nat.le_refl _) (by simp) ?_; (case hd => rfl); (case hg => rfl); (case hr => first | (go_simp; done) | (go_simp; rfl)); (case hp => exact (Reps.none _ _)); intro v387 w5 ho6 hb hg_ hnew_; clear hg_ hnew_; (first | rw [← Ny386.out] at ho6 | (simp only [Int.reduceToNat] at ho6; rw [← Ny386.out] at ho6)); have HO388 := Aside0.mk (Kd.R_lower (Kd.R_newB ho6 (g := gb385) (o := .cells #[.int .i64 a1_0, .int .i64 a1_1] 49 (0, 0)) (bk_ BK385)) bls_); replace BK385 := bkb_ BK385 hb; replace HB := hbs_ hb; clear hb ho6) | ((with_reducible refine gate_callee (f := 36) rfl ?_); refine goesC_ (some 12) Try.func36 #[.slice A0 l0.length c0] ?_; (with_reducible refine (spec_FactsOf.calls k _ _ l0 t389 _ ?side1 ?side2 A3.out).mono ?_); (case side1 => repeat (first | exact (Kd.C_below HR0.out HB.out) | (with_reducible refine Kd.C_alloc ?_ _) | (with_reducible refine Kd.C_drewN ?_ _) | (with_reducible refine Kd.C_drew ?_))); (case side2 => exact HC0.out); rintro e w7 ⟨v390, rfl, ho0, hb⟩; refine ⟨_, rfl, ?_⟩; replace HO388 := hob_ HO388 hb; have HO391 := Aside0.mk (Kd.R_lower ho0 bls_); replace BK385 := bkb_ BK385 hb; replace HB := hbs_ hb; (try clear hb); (try clear hb2); (try clear hk); (try clear hi); (try clear ho0)))
 go_loopg [5, 7] k (fun kq v5 v7 w' => ∃ (x5_1 : List (S49)) (x7_1 : Int), v7 = .int .i64 x7_1 ∧ Aside0 (spec_LeansOn.l0 kq l0 x5_1 t389 x7_1 a1_0 a1_1 = some r) ∧ Aside0 (kq ≤ k) ∧ Aside0 (Kd.R k49 49 w' w.heap.size (fun k_ => k_ ≠ gb385) v5 x5_1) ∧ Aside0 (Kd.R k51 51 w' w.heap.size (fun _ => True) v390 t389) ∧ Aside0 (w'.heap[gb385]? = some (.cells #[.int .i64 a1_0, .int .i64 a1_1] 49 (0, 0))) ∧ Aside0 (Below w.heap.size w w'))
 case atStart => exact ⟨(y386), (0), rf_, H', ⟨Nat.le_refl _⟩, ⟨by (with_reducible repeat (first | apply Kd.R_alloc | apply Kd.R_drewN | apply Kd.R_drew)); exact Kd.R_mono HO388.out (fun _ hk => hk.2)⟩, ⟨by (with_reducible repeat (first | apply Kd.R_alloc | apply Kd.R_drewN | apply Kd.R_drew)); exact HO391.out⟩, ⟨bk_ BK385⟩, ⟨bl_⟩⟩
 case round =>
  clear H'
  try clear p2
  try clear c3
  try clear c7
  obtain ⟨x5_1, x7_1, rfl, HA, HK1, HO_5, HO_6, BK385, HB⟩ := hrel
  cases gk with
  | zero => exact absurd HA.out (by simp [spec_LeansOn.l0])
  | succ k1 =>
   have H := HA.out
   clear HA
   simp only [spec_LeansOn.l0] at H
   by_cases c8 : x7_1 < (l0.length : Int)
   ·rw [if_pos c8] at H
    have c8b0 : decide (x7_1 < (l0.length : Int)) = true := decide_eq_true c8
    clear c8
    obtain ⟨c9b0, H⟩ := ifd_ H
    have HC10 := Aside0.mk H
    clear H
    have p392 : 0 ≤ (x7_1 : Int) := od_
    have q392 : x7_1 < (l0.length : Int) := od_
    obtain ⟨ad392, e392, hx392_0, hx392_1, hx392_2, hx392_3, hx392_4, hx392_5, hx392_6, hx392_7, hx392_8, hx392_9⟩ := at_T56 (Kd.C_below HR0.out HB.out) x7_1 p392 q392
    cases e392
    replace p392 := eq_true p392
    replace q392 := eq_true q392
    go_upto_region 7 with (first | ((with_reducible refine gate_dst (N := 8) rfl ?_); refine box_event ?hg (N := 8) ?hd (cs := #[.int .i64 0, .int .i64 0, .int .i64 0, .int .i64 0, .int .i64 0, .int .i64 0, .int .i64 0, .int .i64 0, .int .i64 0, .int .i64 0]) (t := 56) ?hr ?_; (case hd => rfl); (case hg => rfl); (case hr => first | (go_simp; done) | (go_simp; rfl)); intro gb393 hg w11 hbox hb; replace HO_5 := hob_ HO_5 hb; replace HO_6 := hob_ HO_6 hb; have BK393 := Aside0.mk (hbox); have GW393 := gs_ hg; have GE393 := gs_ hg; replace HB := hbs_ hb; have NB385_393 := nl_ hg BK385; have NB393_385 := nr_ hg BK385; replace BK385 := bkb_ BK385 hb; clear hb hbox hg; have hnb12 := NB393_385.out; have hnc12 := NB385_393.out; have hcz13 := blk_cell BK393.out; have hfz13 := blk_frozen BK393.out))
    (try simp only [Act.put, List.setIfInBounds_toArray, List.set_cons_zero, List.set_cons_succ])
    go_cut [36] (fun v36 wc => ∃ (kq : Nat) (x36_9 : Bool), v36 = .bool x36_9 ∧ Aside0 (spec_LeansOn.j1 kq l0 x5_1 t389 x7_1 x36_9 a1_0 a1_1 ((rd_T56 l0 x7_1).f0) ((rd_T56 l0 x7_1).f1.f0) ((rd_T56 l0 x7_1).f1.f1) ((rd_T56 l0 x7_1).f2) ((rd_T56 l0 x7_1).f3.f0) ((rd_T56 l0 x7_1).f3.f1) ((rd_T56 l0 x7_1).f4.f0) ((rd_T56 l0 x7_1).f4.f1) ((rd_T56 l0 x7_1).f5) ((rd_T56 l0 x7_1).f6) = some r) ∧ Aside0 (kq ≤ k1) ∧ Aside0 (Kd.R k49 49 wc w.heap.size (fun k_ => k_ ≠ gb385) u5 x5_1) ∧ Aside0 (Kd.R k51 51 wc w.heap.size (fun _ => True) v390 t389) ∧ Aside0 (wc.heap[gb385]? = some (.cells #[.int .i64 a1_0, .int .i64 a1_1] 49 (0, 0))) ∧ Aside0 (wc.heap[gb393]? = some (.cells #[.int .i64 ((rd_T56 l0 x7_1).f0), .int .i64 ((rd_T56 l0 x7_1).f1.f0), .int .i64 ((rd_T56 l0 x7_1).f1.f1), .int .i64 ((rd_T56 l0 x7_1).f2), .int .i64 ((rd_T56 l0 x7_1).f3.f0), .int .i64 ((rd_T56 l0 x7_1).f3.f1), .int .i64 ((rd_T56 l0 x7_1).f4.f0), .int .i64 ((rd_T56 l0 x7_1).f4.f1), .int .i64 ((rd_T56 l0 x7_1).f5), .int .i64 ((rd_T56 l0 x7_1).f6)] 56 (0, 0))) ∧ Aside0 (Below w.heap.size w wc))
    case first =>
     have H := HC10.out
     clear HC10
     by_cases c14 : (!(((rd_T56 l0 x7_1).f1.f0) == a1_0) || (!(((rd_T56 l0 x7_1).f1.f1) == a1_1))) = true
     ·rw [if_pos c14] at H
      have c14b0 : (!(((rd_T56 l0 x7_1).f1.f0) == a1_0) || (!(((rd_T56 l0 x7_1).f1.f1) == a1_1))) = true := c14
      clear c14
      (first | rw [c14b0] | (simp only [i64_w, i32_w]; rw [c14b0]) | skip)
      have H' := Aside0.mk H
      clear H
      have hnb15 := NB393_385.out
      have hnc15 := NB385_393.out
      have hcz16 := blk_cell BK393.out
      have hfz16 := blk_frozen BK393.out
      have hcz17 := blk_cell BK385.out
      have hfz17 := blk_frozen BK385.out
      go_wp2
      go_meet
      case rel => exact ⟨_, (true), rf_, H', ⟨by have := HK1.out; first | omega | exact Nat.le_refl _⟩, ⟨by (with_reducible repeat (first | apply Kd.R_alloc | apply Kd.R_drewN | apply Kd.R_drew)); exact Kd.R_mono (Kd.R_far (p := ⟨gb393, 9, none⟩) (Kd.R_far (p := ⟨gb393, 8, none⟩) (Kd.R_far (p := ⟨gb393, 7, none⟩) (Kd.R_far (p := ⟨gb393, 6, none⟩) (Kd.R_far (p := ⟨gb393, 5, none⟩) (Kd.R_far (p := ⟨gb393, 4, none⟩) (Kd.R_far (p := ⟨gb393, 3, none⟩) (Kd.R_far (p := ⟨gb393, 2, none⟩) (Kd.R_far (p := ⟨gb393, 1, none⟩) (Kd.R_far (p := ⟨gb393, 0, none⟩) (Kd.R_types HO_5.out BK393.out (by decide)) (fun _ hk => hk.2) (.int .i64 ((rd_T56 l0 x7_1).f0))) (fun _ hk => hk.2) (.int .i64 ((rd_T56 l0 x7_1).f1.f0))) (fun _ hk => hk.2) (.int .i64 ((rd_T56 l0 x7_1).f1.f1))) (fun _ hk => hk.2) (.int .i64 ((rd_T56 l0 x7_1).f2))) (fun _ hk => hk.2) (.int .i64 ((rd_T56 l0 x7_1).f3.f0))) (fun _ hk => hk.2) (.int .i64 ((rd_T56 l0 x7_1).f3.f1))) (fun _ hk => hk.2) (.int .i64 ((rd_T56 l0 x7_1).f4.f0))) (fun _ hk => hk.2) (.int .i64 ((rd_T56 l0 x7_1).f4.f1))) (fun _ hk => hk.2) (.int .i64 ((rd_T56 l0 x7_1).f5))) (fun _ hk => hk.2) (.int .i64 ((rd_T56 l0 x7_1).f6))) (fun _ hk => hk.1)⟩, ⟨by (with_reducible repeat (first | apply Kd.R_alloc | apply Kd.R_drewN | apply Kd.R_drew)); exact Kd.R_mono (Kd.R_far (p := ⟨gb393, 9, none⟩) (Kd.R_far (p := ⟨gb393, 8, none⟩) (Kd.R_far (p := ⟨gb393, 7, none⟩) (Kd.R_far (p := ⟨gb393, 6, none⟩) (Kd.R_far (p := ⟨gb393, 5, none⟩) (Kd.R_far (p := ⟨gb393, 4, none⟩) (Kd.R_far (p := ⟨gb393, 3, none⟩) (Kd.R_far (p := ⟨gb393, 2, none⟩) (Kd.R_far (p := ⟨gb393, 1, none⟩) (Kd.R_far (p := ⟨gb393, 0, none⟩) (Kd.R_types HO_6.out BK393.out (by decide)) (fun _ hk => hk.2) (.int .i64 ((rd_T56 l0 x7_1).f0))) (fun _ hk => hk.2) (.int .i64 ((rd_T56 l0 x7_1).f1.f0))) (fun _ hk => hk.2) (.int .i64 ((rd_T56 l0 x7_1).f1.f1))) (fun _ hk => hk.2) (.int .i64 ((rd_T56 l0 x7_1).f2))) (fun _ hk => hk.2) (.int .i64 ((rd_T56 l0 x7_1).f3.f0))) (fun _ hk => hk.2) (.int .i64 ((rd_T56 l0 x7_1).f3.f1))) (fun _ hk => hk.2) (.int .i64 ((rd_T56 l0 x7_1).f4.f0))) (fun _ hk => hk.2) (.int .i64 ((rd_T56 l0 x7_1).f4.f1))) (fun _ hk => hk.2) (.int .i64 ((rd_T56 l0 x7_1).f5))) (fun _ hk => hk.2) (.int .i64 ((rd_T56 l0 x7_1).f6))) (fun _ hk => trivial)⟩, ⟨bk_ BK385⟩, ⟨bk_ BK393⟩, ⟨bl_⟩⟩
     ·rw [if_neg c14] at H
      have c14b0 : (!(((rd_T56 l0 x7_1).f1.f0) == a1_0) || (!(((rd_T56 l0 x7_1).f1.f1) == a1_1))) = false := by simpa using c14
      clear c14
      (first | rw [c14b0] | (simp only [i64_w, i32_w]; rw [c14b0]) | skip)
      obtain ⟨t394, A18, H⟩ := bindE_ H
      by_cases c19 : t394 = true
      ·subst c19
       replace H := ite_t_ H
       have H' := Aside0.mk H
       clear H
       have hnb20 := NB393_385.out
       have hnc20 := NB385_393.out
       have hcz21 := blk_cell BK393.out
       have hfz21 := blk_frozen BK393.out
       have hcz22 := blk_cell BK385.out
       have hfz22 := blk_frozen BK385.out
       go_wp2_with (first | (go_at_call 94; (with_reducible refine (spec_CredOk.calls k1 ((rd_T56 l0 x7_1).f0) ((rd_T56 l0 x7_1).f1.f0) ((rd_T56 l0 x7_1).f1.f1) ((rd_T56 l0 x7_1).f2) ((rd_T56 l0 x7_1).f3.f0) ((rd_T56 l0 x7_1).f3.f1) ((rd_T56 l0 x7_1).f4.f0) ((rd_T56 l0 x7_1).f4.f1) ((rd_T56 l0 x7_1).f5) ((rd_T56 l0 x7_1).f6) true _ A18.out).mono ?_); rintro e w23 ⟨rfl, hb⟩; replace HO_5 := Aside0.mk (Kd.R_below (by (with_reducible repeat (first | apply Kd.R_alloc | apply Kd.R_drewN | apply Kd.R_drew)); exact (Kd.R_mono (Kd.R_far (p := ⟨gb393, 9, none⟩) (Kd.R_far (p := ⟨gb393, 8, none⟩) (Kd.R_far (p := ⟨gb393, 7, none⟩) (Kd.R_far (p := ⟨gb393, 6, none⟩) (Kd.R_far (p := ⟨gb393, 5, none⟩) (Kd.R_far (p := ⟨gb393, 4, none⟩) (Kd.R_far (p := ⟨gb393, 3, none⟩) (Kd.R_far (p := ⟨gb393, 2, none⟩) (Kd.R_far (p := ⟨gb393, 1, none⟩) (Kd.R_far (p := ⟨gb393, 0, none⟩) (Kd.R_types HO_5.out BK393.out (by decide)) (fun _ hk => hk.2) (.int .i64 ((rd_T56 l0 x7_1).f0))) (fun _ hk => hk.2) (.int .i64 ((rd_T56 l0 x7_1).f1.f0))) (fun _ hk => hk.2) (.int .i64 ((rd_T56 l0 x7_1).f1.f1))) (fun _ hk => hk.2) (.int .i64 ((rd_T56 l0 x7_1).f2))) (fun _ hk => hk.2) (.int .i64 ((rd_T56 l0 x7_1).f3.f0))) (fun _ hk => hk.2) (.int .i64 ((rd_T56 l0 x7_1).f3.f1))) (fun _ hk => hk.2) (.int .i64 ((rd_T56 l0 x7_1).f4.f0))) (fun _ hk => hk.2) (.int .i64 ((rd_T56 l0 x7_1).f4.f1))) (fun _ hk => hk.2) (.int .i64 ((rd_T56 l0 x7_1).f5))) (fun _ hk => hk.2) (.int .i64 ((rd_T56 l0 x7_1).f6))) (fun _ h_ => h_.1))) hb); replace HO_6 := Aside0.mk (Kd.R_below (by (with_reducible repeat (first | apply Kd.R_alloc | apply Kd.R_drewN | apply Kd.R_drew)); exact (Kd.R_mono (Kd.R_far (p := ⟨gb393, 9, none⟩) (Kd.R_far (p := ⟨gb393, 8, none⟩) (Kd.R_far (p := ⟨gb393, 7, none⟩) (Kd.R_far (p := ⟨gb393, 6, none⟩) (Kd.R_far (p := ⟨gb393, 5, none⟩) (Kd.R_far (p := ⟨gb393, 4, none⟩) (Kd.R_far (p := ⟨gb393, 3, none⟩) (Kd.R_far (p := ⟨gb393, 2, none⟩) (Kd.R_far (p := ⟨gb393, 1, none⟩) (Kd.R_far (p := ⟨gb393, 0, none⟩) (Kd.R_types HO_6.out BK393.out (by decide)) (fun _ hk => hk.2) (.int .i64 ((rd_T56 l0 x7_1).f0))) (fun _ hk => hk.2) (.int .i64 ((rd_T56 l0 x7_1).f1.f0))) (fun _ hk => hk.2) (.int .i64 ((rd_T56 l0 x7_1).f1.f1))) (fun _ hk => hk.2) (.int .i64 ((rd_T56 l0 x7_1).f2))) (fun _ hk => hk.2) (.int .i64 ((rd_T56 l0 x7_1).f3.f0))) (fun _ hk => hk.2) (.int .i64 ((rd_T56 l0 x7_1).f3.f1))) (fun _ hk => hk.2) (.int .i64 ((rd_T56 l0 x7_1).f4.f0))) (fun _ hk => hk.2) (.int .i64 ((rd_T56 l0 x7_1).f4.f1))) (fun _ hk => hk.2) (.int .i64 ((rd_T56 l0 x7_1).f5))) (fun _ hk => hk.2) (.int .i64 ((rd_T56 l0 x7_1).f6))) (fun _ h_ => h_.1))) hb); replace BK385 := Aside0.mk (blk_below (g := gb385) (o := .cells #[.int .i64 a1_0, .int .i64 a1_1] 49 (0, 0)) (bk_ BK385) hb); replace BK393 := Aside0.mk (blk_below (g := gb393) (o := .cells #[.int .i64 ((rd_T56 l0 x7_1).f0), .int .i64 ((rd_T56 l0 x7_1).f1.f0), .int .i64 ((rd_T56 l0 x7_1).f1.f1), .int .i64 ((rd_T56 l0 x7_1).f2), .int .i64 ((rd_T56 l0 x7_1).f3.f0), .int .i64 ((rd_T56 l0 x7_1).f3.f1), .int .i64 ((rd_T56 l0 x7_1).f4.f0), .int .i64 ((rd_T56 l0 x7_1).f4.f1), .int .i64 ((rd_T56 l0 x7_1).f5), .int .i64 ((rd_T56 l0 x7_1).f6)] 56 (0, 0)) (bk_ BK393) hb); replace HB := hbs_ hb; clear hb; have hcz24 := blk_cell BK393.out; have hfz24 := blk_frozen BK393.out))
       go_meet
       case rel => exact ⟨_, ((((rd_T56 l0 x7_1).f0) == 1)), rf_, H', ⟨by have := HK1.out; first | omega | exact Nat.le_refl _⟩, ⟨by (with_reducible repeat (first | apply Kd.R_alloc | apply Kd.R_drewN | apply Kd.R_drew)); exact HO_5.out⟩, ⟨by (with_reducible repeat (first | apply Kd.R_alloc | apply Kd.R_drewN | apply Kd.R_drew)); exact HO_6.out⟩, ⟨bk_ BK385⟩, ⟨bk_ BK393⟩, ⟨bl_⟩⟩
      ·replace c19 := Bool.eq_false_iff.mpr c19
       subst c19
       replace H := ite_f_ H
       have H' := Aside0.mk H
       clear H
       have hnb25 := NB393_385.out
       have hnc25 := NB385_393.out
       have hcz26 := blk_cell BK393.out
       have hfz26 := blk_frozen BK393.out
       have hcz27 := blk_cell BK385.out
       have hfz27 := blk_frozen BK385.out
       go_wp2_with (first | (go_at_call 94; (with_reducible refine (spec_CredOk.calls k1 ((rd_T56 l0 x7_1).f0) ((rd_T56 l0 x7_1).f1.f0) ((rd_T56 l0 x7_1).f1.f1) ((rd_T56 l0 x7_1).f2) ((rd_T56 l0 x7_1).f3.f0) ((rd_T56 l0 x7_1).f3.f1) ((rd_T56 l0 x7_1).f4.f0) ((rd_T56 l0 x7_1).f4.f1) ((rd_T56 l0 x7_1).f5) ((rd_T56 l0 x7_1).f6) false _ A18.out).mono ?_); rintro e w28 ⟨rfl, hb⟩; replace HO_5 := Aside0.mk (Kd.R_below (by (with_reducible repeat (first | apply Kd.R_alloc | apply Kd.R_drewN | apply Kd.R_drew)); exact (Kd.R_mono (Kd.R_far (p := ⟨gb393, 9, none⟩) (Kd.R_far (p := ⟨gb393, 8, none⟩) (Kd.R_far (p := ⟨gb393, 7, none⟩) (Kd.R_far (p := ⟨gb393, 6, none⟩) (Kd.R_far (p := ⟨gb393, 5, none⟩) (Kd.R_far (p := ⟨gb393, 4, none⟩) (Kd.R_far (p := ⟨gb393, 3, none⟩) (Kd.R_far (p := ⟨gb393, 2, none⟩) (Kd.R_far (p := ⟨gb393, 1, none⟩) (Kd.R_far (p := ⟨gb393, 0, none⟩) (Kd.R_types HO_5.out BK393.out (by decide)) (fun _ hk => hk.2) (.int .i64 ((rd_T56 l0 x7_1).f0))) (fun _ hk => hk.2) (.int .i64 ((rd_T56 l0 x7_1).f1.f0))) (fun _ hk => hk.2) (.int .i64 ((rd_T56 l0 x7_1).f1.f1))) (fun _ hk => hk.2) (.int .i64 ((rd_T56 l0 x7_1).f2))) (fun _ hk => hk.2) (.int .i64 ((rd_T56 l0 x7_1).f3.f0))) (fun _ hk => hk.2) (.int .i64 ((rd_T56 l0 x7_1).f3.f1))) (fun _ hk => hk.2) (.int .i64 ((rd_T56 l0 x7_1).f4.f0))) (fun _ hk => hk.2) (.int .i64 ((rd_T56 l0 x7_1).f4.f1))) (fun _ hk => hk.2) (.int .i64 ((rd_T56 l0 x7_1).f5))) (fun _ hk => hk.2) (.int .i64 ((rd_T56 l0 x7_1).f6))) (fun _ h_ => h_.1))) hb); replace HO_6 := Aside0.mk (Kd.R_below (by (with_reducible repeat (first | apply Kd.R_alloc | apply Kd.R_drewN | apply Kd.R_drew)); exact (Kd.R_mono (Kd.R_far (p := ⟨gb393, 9, none⟩) (Kd.R_far (p := ⟨gb393, 8, none⟩) (Kd.R_far (p := ⟨gb393, 7, none⟩) (Kd.R_far (p := ⟨gb393, 6, none⟩) (Kd.R_far (p := ⟨gb393, 5, none⟩) (Kd.R_far (p := ⟨gb393, 4, none⟩) (Kd.R_far (p := ⟨gb393, 3, none⟩) (Kd.R_far (p := ⟨gb393, 2, none⟩) (Kd.R_far (p := ⟨gb393, 1, none⟩) (Kd.R_far (p := ⟨gb393, 0, none⟩) (Kd.R_types HO_6.out BK393.out (by decide)) (fun _ hk => hk.2) (.int .i64 ((rd_T56 l0 x7_1).f0))) (fun _ hk => hk.2) (.int .i64 ((rd_T56 l0 x7_1).f1.f0))) (fun _ hk => hk.2) (.int .i64 ((rd_T56 l0 x7_1).f1.f1))) (fun _ hk => hk.2) (.int .i64 ((rd_T56 l0 x7_1).f2))) (fun _ hk => hk.2) (.int .i64 ((rd_T56 l0 x7_1).f3.f0))) (fun _ hk => hk.2) (.int .i64 ((rd_T56 l0 x7_1).f3.f1))) (fun _ hk => hk.2) (.int .i64 ((rd_T56 l0 x7_1).f4.f0))) (fun _ hk => hk.2) (.int .i64 ((rd_T56 l0 x7_1).f4.f1))) (fun _ hk => hk.2) (.int .i64 ((rd_T56 l0 x7_1).f5))) (fun _ hk => hk.2) (.int .i64 ((rd_T56 l0 x7_1).f6))) (fun _ h_ => h_.1))) hb); replace BK385 := Aside0.mk (blk_below (g := gb385) (o := .cells #[.int .i64 a1_0, .int .i64 a1_1] 49 (0, 0)) (bk_ BK385) hb); replace BK393 := Aside0.mk (blk_below (g := gb393) (o := .cells #[.int .i64 ((rd_T56 l0 x7_1).f0), .int .i64 ((rd_T56 l0 x7_1).f1.f0), .int .i64 ((rd_T56 l0 x7_1).f1.f1), .int .i64 ((rd_T56 l0 x7_1).f2), .int .i64 ((rd_T56 l0 x7_1).f3.f0), .int .i64 ((rd_T56 l0 x7_1).f3.f1), .int .i64 ((rd_T56 l0 x7_1).f4.f0), .int .i64 ((rd_T56 l0 x7_1).f4.f1), .int .i64 ((rd_T56 l0 x7_1).f5), .int .i64 ((rd_T56 l0 x7_1).f6)] 56 (0, 0)) (bk_ BK393) hb); replace HB := hbs_ hb; clear hb))
       go_meet
       case rel => exact ⟨_, (true), rf_, H', ⟨by have := HK1.out; first | omega | exact Nat.le_refl _⟩, ⟨by (with_reducible repeat (first | apply Kd.R_alloc | apply Kd.R_drewN | apply Kd.R_drew)); exact HO_5.out⟩, ⟨by (with_reducible repeat (first | apply Kd.R_alloc | apply Kd.R_drewN | apply Kd.R_drew)); exact HO_6.out⟩, ⟨bk_ BK385⟩, ⟨bk_ BK393⟩, ⟨bl_⟩⟩
    case rest =>
     clear HC10
     try clear c1
     try clear c2
     try clear p2
     try clear c3
     try clear p3
     try clear q3
     try clear hx3
     try clear c7
     try clear c8
     try clear c8b0
     try clear c9
     try clear c9b0
     try clear c12
     try clear c14
     try clear c14b0
     try clear c15
     try clear c19
     try clear c20
     try clear c25
     try clear hcz13
     try clear hcz16
     try clear hcz17
     try clear hcz21
     try clear hcz22
     try clear hcz24
     try clear hcz26
     try clear hcz27
     try clear hfz13
     try clear hfz16
     try clear hfz17
     try clear hfz21
     try clear hfz22
     try clear hfz24
     try clear hfz26
     try clear hfz27
     try clear hx392_0
     try clear hx392_1
     try clear hx392_2
     try clear hx392_3
     try clear hx392_4
     try clear hx392_5
     try clear hx392_6
     try clear hx392_7
     try clear hx392_8
     try clear hx392_9
     try clear p2
     try clear p392
     try clear q392
     obtain ⟨kq, x36_9, rfl, HA, HJ9, HO_5, HO_6, BK385, BK393, HB⟩ := hcut
     cases kq with
     | zero => exact absurd HA.out (by simp [spec_LeansOn.j1])
     | succ kj9 =>
      have H := HA.out
      clear HA
      simp only [spec_LeansOn.j1] at H
      by_cases c29 : x36_9 = true
      ·subst c29
       replace H := ite_t_ H
       have H' := Aside0.mk H
       clear H
       go_wp2
       go_roundg kj9
       case measure => have := HK1.out; have := HJ9.out; omega
       case rel => exact ⟨(x5_1), (wrap64 (x7_1 + 1)), rf_, H', ⟨by have := HK1.out; have := HJ9.out; omega⟩, ⟨by (with_reducible repeat (first | apply Kd.R_alloc | apply Kd.R_drewN | apply Kd.R_drew)); exact HO_5.out⟩, ⟨by (with_reducible repeat (first | apply Kd.R_alloc | apply Kd.R_drewN | apply Kd.R_drew)); exact HO_6.out⟩, ⟨bk_ BK385⟩, ⟨bl_⟩⟩
      ·replace c29 := Bool.eq_false_iff.mpr c29
       subst c29
       replace H := ite_f_ H
       obtain ⟨t395, A30, H⟩ := bindE_ H
       have HC31 := Aside0.mk H
       clear H
       have hnb32 := NB393_385.out
       have hnc32 := NB385_393.out
       have hcz33 := blk_cell BK393.out
       have hfz33 := blk_frozen BK393.out
       obtain ⟨Ao34, co34, eo34⟩ := Kd.R_slice HO_5.out
       subst eo34
       go_upto_if 43 with (first | ((with_reducible refine gate_callee (f := 126) rfl ?_); refine goesC_ (some 40) Try.func126 #[.slice Ao34 x5_1.length co34, .agg #[.int .i64 ((rd_T56 l0 x7_1).f3.f0), .int .i64 ((rd_T56 l0 x7_1).f3.f1)]] ?_; (with_reducible refine (spec_l18Add.calls kj9 (fun k_ => some k_ = (.slice Ao34 x5_1.length co34 : Value).ownBlock) (.slice Ao34 x5_1.length co34) x5_1 ((rd_T56 l0 x7_1).f3.f0) ((rd_T56 l0 x7_1).f3.f1) t395 w _ ?side1 ?side2 A30.out).mono ?_); (case side1 => repeat (first | (with_reducible first | exact HB.out | apply below_alloc | apply pw_below_drewN | apply below_drew1 | refine below_set ?_ GE385.out | refine below_set ?_ GE393.out) | exact HB.out)); (case side2 => exact Kd.R_tight rfl HO_5.out); rintro e w35 ⟨v396, rfl, ho0, hb, hkp⟩; refine ⟨_, rfl, ?_⟩; replace HO_6 := Aside0.mk (Kd.R_mono (ok' := fun k_ => True) (Kd.R_keptB ((Kd.R_apart' HO_6.out (Kd.R_typed HO_5.out) (by decide))) hkp (fun k_ hk_ hs_ => (hk_.2) hs_)) (fun k_ hk_ => trivial)); replace BK393 := Aside0.mk (blk_kept (bk_ BK393) hkp (fun hs_ => (fun e_ => (Kd.R_ne HO_5.out BK393.out (by decide)) e_) hs_)); have HO397 := Aside0.mk (Kd.R_mono (ok' := fun k_ => k_ ≠ gb385) ho0 (fun k_ hk_ => Or.elim hk_ (fun hs_ => fun e_ => (Kd.R_away HO_5.out (fun _ hk => hk)) (by rw [← e_]; exact hs_)) (fun hn_ => (Kd.freshB (g := gb385) (o := .cells #[.int .i64 a1_0, .int .i64 a1_1] 49 (0, 0)) (bk_ BK385) k_ hn_)))); replace BK385 := Aside0.mk (blk_kept (bk_ BK385) hkp (fun hs_ => (fun e_ => (Kd.R_away HO_5.out (fun _ hk => hk)) e_) hs_)); replace HB := Aside0.mk (hb); clear HO_5; (try clear hb); (try clear hkp); (try clear ho0); have hcz36 := blk_cell BK393.out; have hfz36 := blk_frozen BK393.out))
       (try simp only [Act.put, List.setIfInBounds_toArray, List.set_cons_zero, List.set_cons_succ])
       go_cut [5] (fun v5 wc => ∃ (kq : Nat) (x5_30 : List (S49)), Aside0 (spec_LeansOn.j2 kq l0 x5_30 t389 x7_1 a1_0 a1_1 ((rd_T56 l0 x7_1).f0) ((rd_T56 l0 x7_1).f1.f0) ((rd_T56 l0 x7_1).f1.f1) ((rd_T56 l0 x7_1).f2) ((rd_T56 l0 x7_1).f3.f0) ((rd_T56 l0 x7_1).f3.f1) ((rd_T56 l0 x7_1).f4.f0) ((rd_T56 l0 x7_1).f4.f1) ((rd_T56 l0 x7_1).f5) ((rd_T56 l0 x7_1).f6) = some r) ∧ Aside0 (kq ≤ kj9) ∧ Aside0 (Kd.R k49 49 wc w.heap.size (fun k_ => k_ ≠ gb385) v5 x5_30) ∧ Aside0 (Kd.R k51 51 wc w.heap.size (fun _ => True) v390 t389) ∧ Aside0 (wc.heap[gb385]? = some (.cells #[.int .i64 a1_0, .int .i64 a1_1] 49 (0, 0))) ∧ Aside0 (wc.heap[gb393]? = some (.cells #[.int .i64 ((rd_T56 l0 x7_1).f0), .int .i64 ((rd_T56 l0 x7_1).f1.f0), .int .i64 ((rd_T56 l0 x7_1).f1.f1), .int .i64 ((rd_T56 l0 x7_1).f2), .int .i64 ((rd_T56 l0 x7_1).f3.f0), .int .i64 ((rd_T56 l0 x7_1).f3.f1), .int .i64 ((rd_T56 l0 x7_1).f4.f0), .int .i64 ((rd_T56 l0 x7_1).f4.f1), .int .i64 ((rd_T56 l0 x7_1).f5), .int .i64 ((rd_T56 l0 x7_1).f6)] 56 (0, 0))) ∧ Aside0 (Below w.heap.size w wc))
       case first =>
        have H := HC31.out
        clear HC31
        by_cases c37 : ((rd_T56 l0 x7_1).f0) = 4
        ·rw [if_pos c37] at H
         have c37b0 : (((rd_T56 l0 x7_1).f0) == 4) = true := beq_iff_eq.mpr c37
         have c37b1 : (((rd_T56 l0 x7_1).f0) != 4) = false := bne_eq_false_iff_eq.mpr c37
         clear c37
         (first | rw [c37b0] | (simp only [i64_w, i32_w]; rw [c37b0]) | skip)
         obtain ⟨t398, A38, H⟩ := bindE_ H
         have H' := Aside0.mk H
         clear H
         have hnb39 := NB393_385.out
         have hnc39 := NB385_393.out
         have hcz40 := blk_cell BK393.out
         have hfz40 := blk_frozen BK393.out
         obtain ⟨Ao41, co41, eo41⟩ := Kd.R_slice HO397.out
         subst eo41
         go_wp2_with (first | ((with_reducible refine gate_callee (f := 126) rfl ?_); refine goesC_ (some 47) Try.func126 #[.slice Ao41 t395.length co41, .agg #[.int .i64 ((rd_T56 l0 x7_1).f4.f0), .int .i64 ((rd_T56 l0 x7_1).f4.f1)]] ?_; (with_reducible refine (spec_l18Add.calls kj9 (fun k_ => some k_ = (.slice Ao41 t395.length co41 : Value).ownBlock) (.slice Ao41 t395.length co41) t395 ((rd_T56 l0 x7_1).f4.f0) ((rd_T56 l0 x7_1).f4.f1) t398 w _ ?side1 ?side2 A38.out).mono ?_); (case side1 => repeat (first | (with_reducible first | exact HB.out | apply below_alloc | apply pw_below_drewN | apply below_drew1 | refine below_set ?_ GE385.out | refine below_set ?_ GE393.out) | exact HB.out)); (case side2 => exact Kd.R_tight rfl HO397.out); rintro e w42 ⟨v399, rfl, ho0, hb, hkp⟩; refine ⟨_, rfl, ?_⟩; replace HO_6 := Aside0.mk (Kd.R_mono (ok' := fun k_ => True) (Kd.R_keptB ((Kd.R_apart' HO_6.out (Kd.R_typed HO397.out) (by decide))) hkp (fun k_ hk_ hs_ => (hk_.2) hs_)) (fun k_ hk_ => trivial)); replace BK393 := Aside0.mk (blk_kept (bk_ BK393) hkp (fun hs_ => (fun e_ => (Kd.R_ne HO397.out BK393.out (by decide)) e_) hs_)); have HO400 := Aside0.mk (Kd.R_mono (ok' := fun k_ => k_ ≠ gb385) ho0 (fun k_ hk_ => Or.elim hk_ (fun hs_ => fun e_ => (Kd.R_away HO397.out (fun _ hk => hk)) (by rw [← e_]; exact hs_)) (fun hn_ => (Kd.freshB (g := gb385) (o := .cells #[.int .i64 a1_0, .int .i64 a1_1] 49 (0, 0)) (bk_ BK385) k_ hn_)))); replace BK385 := Aside0.mk (blk_kept (bk_ BK385) hkp (fun hs_ => (fun e_ => (Kd.R_away HO397.out (fun _ hk => hk)) e_) hs_)); replace HB := Aside0.mk (hb); clear HO397; (try clear hb); (try clear hkp); (try clear ho0)))
         go_meet
         case rel => exact ⟨_, (t398), H', ⟨by have := HK1.out; have := HJ9.out; first | omega | exact Nat.le_refl _⟩, ⟨by (with_reducible repeat (first | apply Kd.R_alloc | apply Kd.R_drewN | apply Kd.R_drew)); exact HO400.out⟩, ⟨by (with_reducible repeat (first | apply Kd.R_alloc | apply Kd.R_drewN | apply Kd.R_drew)); exact HO_6.out⟩, ⟨bk_ BK385⟩, ⟨bk_ BK393⟩, ⟨bl_⟩⟩
        ·rw [if_neg c37] at H
         have c37b0 : (((rd_T56 l0 x7_1).f0) == 4) = false := beq_eq_false_iff_ne.mpr c37
         have c37b1 : (((rd_T56 l0 x7_1).f0) != 4) = true := bne_iff_ne.mpr c37
         (first | rw [c37b0] | (simp only [i64_w, i32_w]; rw [c37b0]) | skip)
         have H' := Aside0.mk H
         clear H
         go_wp2
         go_meet
         case rel => exact ⟨_, (t395), H', ⟨by have := HK1.out; have := HJ9.out; first | omega | exact Nat.le_refl _⟩, ⟨by (with_reducible repeat (first | apply Kd.R_alloc | apply Kd.R_drewN | apply Kd.R_drew)); exact HO397.out⟩, ⟨by (with_reducible repeat (first | apply Kd.R_alloc | apply Kd.R_drewN | apply Kd.R_drew)); exact HO_6.out⟩, ⟨bk_ BK385⟩, ⟨bk_ BK393⟩, ⟨bl_⟩⟩
       case rest =>
        clear HC31
        try clear c1
        try clear c2
        try clear p2
        try clear c3
        try clear p3
        try clear q3
        try clear hx3
        try clear p6
        try clear c7
        try clear c8
        try clear c8b0
        try clear c9
        try clear c9b0
        try clear c12
        try clear c14
        try clear c14b0
        try clear c15
        try clear c19
        try clear c20
        try clear c25
        try clear c29
        try clear c32
        try clear c36
        try clear c37
        try clear c37b0
        try clear c37b1
        try clear c39
        try clear p39
        try clear q39
        try clear hx39
        try clear hcz13
        try clear hcz16
        try clear hcz17
        try clear hcz21
        try clear hcz22
        try clear hcz24
        try clear hcz26
        try clear hcz27
        try clear hcz33
        try clear hcz36
        try clear hcz40
        try clear hfz13
        try clear hfz16
        try clear hfz17
        try clear hfz21
        try clear hfz22
        try clear hfz24
        try clear hfz26
        try clear hfz27
        try clear hfz33
        try clear hfz36
        try clear hfz40
        try clear hx392_0
        try clear hx392_1
        try clear hx392_2
        try clear hx392_3
        try clear hx392_4
        try clear hx392_5
        try clear hx392_6
        try clear hx392_7
        try clear hx392_8
        try clear hx392_9
        try clear p2
        try clear p3
        try clear p392
        try clear q3
        try clear q392
        obtain ⟨kq, x5_30, HA, HJ30, HO_5, HO_6, BK385, BK393, HB⟩ := hcut
        cases kq with
        | zero => exact absurd HA.out (by simp [spec_LeansOn.j2])
        | succ kj30 =>
         have H := HA.out
         clear HA
         simp only [spec_LeansOn.j2] at H
         have H' := Aside0.mk H
         clear H
         go_wp2
         go_loopg [5, 9] kj30 (fun kq v5 v9 w' => ∃ (x5_4 : List (S49)) (x9_4 : Int), v9 = .int .i64 x9_4 ∧ Aside0 (spec_LeansOn.l1 kq l0 x5_4 t389 x7_1 x9_4 a1_0 a1_1 ((rd_T56 l0 x7_1).f0) ((rd_T56 l0 x7_1).f1.f0) ((rd_T56 l0 x7_1).f1.f1) ((rd_T56 l0 x7_1).f2) ((rd_T56 l0 x7_1).f3.f0) ((rd_T56 l0 x7_1).f3.f1) ((rd_T56 l0 x7_1).f4.f0) ((rd_T56 l0 x7_1).f4.f1) ((rd_T56 l0 x7_1).f5) ((rd_T56 l0 x7_1).f6) = some r) ∧ Aside0 (kq ≤ kj30) ∧ Aside0 (Kd.R k49 49 w' w.heap.size (fun k_ => k_ ≠ gb385) v5 x5_4) ∧ Aside0 (Kd.R k51 51 w' w.heap.size (fun _ => True) v390 t389) ∧ Aside0 (w'.heap[gb385]? = some (.cells #[.int .i64 a1_0, .int .i64 a1_1] 49 (0, 0))) ∧ Aside0 (w'.heap[gb393]? = some (.cells #[.int .i64 ((rd_T56 l0 x7_1).f0), .int .i64 ((rd_T56 l0 x7_1).f1.f0), .int .i64 ((rd_T56 l0 x7_1).f1.f1), .int .i64 ((rd_T56 l0 x7_1).f2), .int .i64 ((rd_T56 l0 x7_1).f3.f0), .int .i64 ((rd_T56 l0 x7_1).f3.f1), .int .i64 ((rd_T56 l0 x7_1).f4.f0), .int .i64 ((rd_T56 l0 x7_1).f4.f1), .int .i64 ((rd_T56 l0 x7_1).f5), .int .i64 ((rd_T56 l0 x7_1).f6)] 56 (0, 0))) ∧ Aside0 (Below w.heap.size w w'))
         case atStart => exact ⟨(x5_30), (0), rf_, H', ⟨Nat.le_refl _⟩, ⟨by (with_reducible repeat (first | apply Kd.R_alloc | apply Kd.R_drewN | apply Kd.R_drew)); exact HO_5.out⟩, ⟨by (with_reducible repeat (first | apply Kd.R_alloc | apply Kd.R_drewN | apply Kd.R_drew)); exact HO_6.out⟩, ⟨bk_ BK385⟩, ⟨bk_ BK393⟩, ⟨bl_⟩⟩
         case round =>
          clear H'
          try clear c1
          try clear c2
          try clear p2
          try clear c3
          try clear p3
          try clear q3
          try clear hx3
          try clear p6
          try clear c7
          try clear c8
          try clear c8b0
          try clear c9
          try clear c9b0
          try clear c12
          try clear c14
          try clear c14b0
          try clear c15
          try clear c19
          try clear c20
          try clear c25
          try clear c29
          try clear c32
          try clear c36
          try clear c37
          try clear c37b0
          try clear c37b1
          try clear c39
          try clear p39
          try clear q39
          try clear hx39
          try clear hcz13
          try clear hcz16
          try clear hcz17
          try clear hcz21
          try clear hcz22
          try clear hcz24
          try clear hcz26
          try clear hcz27
          try clear hcz33
          try clear hcz36
          try clear hcz40
          try clear hfz13
          try clear hfz16
          try clear hfz17
          try clear hfz21
          try clear hfz22
          try clear hfz24
          try clear hfz26
          try clear hfz27
          try clear hfz33
          try clear hfz36
          try clear hfz40
          try clear hx392_0
          try clear hx392_1
          try clear hx392_2
          try clear hx392_3
          try clear hx392_4
          try clear hx392_5
          try clear hx392_6
          try clear hx392_7
          try clear hx392_8
          try clear hx392_9
          try clear p2
          try clear p3
          try clear p39
          try clear p392
          try clear p6
          try clear q3
          try clear q39
          try clear q392
          obtain ⟨x5_4, x9_4, rfl, HA, HK4, HO_5, HO_6, BK385, BK393, HB⟩ := hrel
          cases gk with
          | zero => exact absurd HA.out (by simp [spec_LeansOn.l1])
          | succ k4 =>
           have H := HA.out
           clear HA
           simp only [spec_LeansOn.l1] at H
           have HC43 := Aside0.mk H
           clear H
           go_upto_region 12 with (fail)
           go_cut [54] (fun v54 wc => ∃ (kq : Nat) (x54_42 : Bool), v54 = .bool x54_42 ∧ Aside0 (spec_LeansOn.j4 kq l0 x5_4 t389 x7_1 x9_4 x54_42 a1_0 a1_1 ((rd_T56 l0 x7_1).f0) ((rd_T56 l0 x7_1).f1.f0) ((rd_T56 l0 x7_1).f1.f1) ((rd_T56 l0 x7_1).f2) ((rd_T56 l0 x7_1).f3.f0) ((rd_T56 l0 x7_1).f3.f1) ((rd_T56 l0 x7_1).f4.f0) ((rd_T56 l0 x7_1).f4.f1) ((rd_T56 l0 x7_1).f5) ((rd_T56 l0 x7_1).f6) = some r) ∧ Aside0 (kq ≤ k4) ∧ Aside0 (Kd.R k49 49 wc w.heap.size (fun k_ => k_ ≠ gb385) u5 x5_4) ∧ Aside0 (Kd.R k51 51 wc w.heap.size (fun _ => True) v390 t389) ∧ Aside0 (wc.heap[gb385]? = some (.cells #[.int .i64 a1_0, .int .i64 a1_1] 49 (0, 0))) ∧ Aside0 (wc.heap[gb393]? = some (.cells #[.int .i64 ((rd_T56 l0 x7_1).f0), .int .i64 ((rd_T56 l0 x7_1).f1.f0), .int .i64 ((rd_T56 l0 x7_1).f1.f1), .int .i64 ((rd_T56 l0 x7_1).f2), .int .i64 ((rd_T56 l0 x7_1).f3.f0), .int .i64 ((rd_T56 l0 x7_1).f3.f1), .int .i64 ((rd_T56 l0 x7_1).f4.f0), .int .i64 ((rd_T56 l0 x7_1).f4.f1), .int .i64 ((rd_T56 l0 x7_1).f5), .int .i64 ((rd_T56 l0 x7_1).f6)] 56 (0, 0))) ∧ Aside0 (Below w.heap.size w wc))
           case first =>
            have H := HC43.out
            clear HC43
            by_cases c44 : x9_4 < 6
            ·rw [if_pos c44] at H
             have c44b0 : decide (x9_4 < 6) = true := decide_eq_true c44
             clear c44
             (first | rw [c44b0] | (simp only [i64_w, i32_w]; rw [c44b0]) | skip)
             have H' := Aside0.mk H
             clear H
             have hnb45 := NB393_385.out
             have hnc45 := NB385_393.out
             have hcz46 := blk_cell BK393.out
             have hfz46 := blk_frozen BK393.out
             go_wp2
             go_meet
             case rel => exact ⟨_, ((((rd_T56 l0 x7_1).f0) == 3)), rf_, H', ⟨by have := HK1.out; have := HJ9.out; have := HJ30.out; have := HK4.out; first | omega | exact Nat.le_refl _⟩, ⟨by (with_reducible repeat (first | apply Kd.R_alloc | apply Kd.R_drewN | apply Kd.R_drew)); exact HO_5.out⟩, ⟨by (with_reducible repeat (first | apply Kd.R_alloc | apply Kd.R_drewN | apply Kd.R_drew)); exact HO_6.out⟩, ⟨bk_ BK385⟩, ⟨bk_ BK393⟩, ⟨bl_⟩⟩
            ·rw [if_neg c44] at H
             have c44b0 : decide (x9_4 < 6) = false := decide_eq_false c44
             clear c44
             (first | rw [c44b0] | (simp only [i64_w, i32_w]; rw [c44b0]) | skip)
             have H' := Aside0.mk H
             clear H
             go_wp2
             go_meet
             case rel => exact ⟨_, (false), rf_, H', ⟨by have := HK1.out; have := HJ9.out; have := HJ30.out; have := HK4.out; first | omega | exact Nat.le_refl _⟩, ⟨by (with_reducible repeat (first | apply Kd.R_alloc | apply Kd.R_drewN | apply Kd.R_drew)); exact HO_5.out⟩, ⟨by (with_reducible repeat (first | apply Kd.R_alloc | apply Kd.R_drewN | apply Kd.R_drew)); exact HO_6.out⟩, ⟨bk_ BK385⟩, ⟨bk_ BK393⟩, ⟨bl_⟩⟩
           case rest =>
            clear HC43
            try clear c1
            try clear c2
            try clear p2
            try clear c3
            try clear p3
            try clear q3
            try clear hx3
            try clear c4
            try clear p6
            try clear c7
            try clear c8
            try clear c8b0
            try clear c9
            try clear c9b0
            try clear c12
            try clear c14
            try clear c14b0
            try clear c15
            try clear c19
            try clear c20
            try clear c25
            try clear c29
            try clear c32
            try clear c36
            try clear c37
            try clear c37b0
            try clear c37b1
            try clear c39
            try clear p39
            try clear q39
            try clear hx39
            try clear c44
            try clear c44b0
            try clear c45
            try clear hcz13
            try clear hcz16
            try clear hcz17
            try clear hcz21
            try clear hcz22
            try clear hcz24
            try clear hcz26
            try clear hcz27
            try clear hcz33
            try clear hcz36
            try clear hcz40
            try clear hcz46
            try clear hfz13
            try clear hfz16
            try clear hfz17
            try clear hfz21
            try clear hfz22
            try clear hfz24
            try clear hfz26
            try clear hfz27
            try clear hfz33
            try clear hfz36
            try clear hfz40
            try clear hfz46
            try clear hx392_0
            try clear hx392_1
            try clear hx392_2
            try clear hx392_3
            try clear hx392_4
            try clear hx392_5
            try clear hx392_6
            try clear hx392_7
            try clear hx392_8
            try clear hx392_9
            try clear p2
            try clear p3
            try clear p39
            try clear p392
            try clear p6
            try clear q3
            try clear q39
            try clear q392
            obtain ⟨kq, x54_42, rfl, HA, HJ42, HO_5, HO_6, BK385, BK393, HB⟩ := hcut
            cases kq with
            | zero => exact absurd HA.out (by simp [spec_LeansOn.j4])
            | succ kj42 =>
             have H := HA.out
             clear HA
             simp only [spec_LeansOn.j4] at H
             by_cases c47 : x54_42 = true
             ·subst c47
              replace H := ite_t_ H
              obtain ⟨t401, A48, H⟩ := bindE_ H
              by_cases c49 : t401 = true
              ·subst c49
               replace H := ite_t_ H
               obtain ⟨t402, A50, H⟩ := bindE_ H
               have H' := Aside0.mk H
               clear H
               have hnb51 := NB393_385.out
               have hnc51 := NB385_393.out
               have hcz52 := blk_cell BK393.out
               have hfz52 := blk_frozen BK393.out
               obtain ⟨Ao53, co53, eo53⟩ := Kd.R_slice HO_6.out
               subst eo53
               go_wp2_with (first | ((with_reducible refine gate_callee (f := 120) rfl ?_); refine goesC_ (some 62) Try.func120 #[.slice Ao53 t389.length co53, .agg #[.int .i64 ((rd_T56 l0 x7_1).f3.f0), .int .i64 ((rd_T56 l0 x7_1).f3.f1), .int .i64 x9_4]] ?_; (with_reducible refine (spec_l06Has.calls kj42 _ _ t389 ((rd_T56 l0 x7_1).f3.f0) ((rd_T56 l0 x7_1).f3.f1) x9_4 true _ ?side1 ?side2 A48.out).mono ?_); (case side1 => repeat (first | exact (Kd.R_reads' HO_6.out).2.2 | (with_reducible refine Kd.C_alloc ?_ _) | (with_reducible refine Kd.C_drewN ?_ _) | (with_reducible refine Kd.C_drew ?_))); (case side2 => exact (Kd.R_reads' HO_6.out).2.1); rintro e w54 ⟨rfl, hb⟩; refine ⟨_, rfl, ?_⟩; replace HO_5 := hob_ HO_5 hb; replace HO_6 := hob_ HO_6 hb; replace BK385 := bkb_ BK385 hb; replace BK393 := bkb_ BK393 hb; replace HB := hbs_ hb; clear hb; have hcz55 := blk_cell BK393.out; have hfz55 := blk_frozen BK393.out; obtain ⟨Ao56, co56, eo56⟩ := Kd.R_slice HO_5.out; subst eo56) | ((with_reducible refine gate_callee (f := 126) rfl ?_); refine goesC_ (some 69) Try.func126 #[.slice Ao56 x5_4.length co56, .agg #[.int .i64 x9_4, .int .i64 ((rd_T56 l0 x7_1).f4.f1)]] ?_; (with_reducible refine (spec_l18Add.calls kj42 (fun k_ => some k_ = (.slice Ao56 x5_4.length co56 : Value).ownBlock) (.slice Ao56 x5_4.length co56) x5_4 x9_4 ((rd_T56 l0 x7_1).f4.f1) t402 w _ ?side1 ?side2 A50.out).mono ?_); (case side1 => repeat (first | (with_reducible first | exact HB.out | apply below_alloc | apply pw_below_drewN | apply below_drew1 | refine below_set ?_ GE385.out | refine below_set ?_ GE393.out) | exact HB.out)); (case side2 => exact Kd.R_tight rfl HO_5.out); rintro e w57 ⟨v403, rfl, ho0, hb, hkp⟩; refine ⟨_, rfl, ?_⟩; replace HO_6 := Aside0.mk (Kd.R_mono (ok' := fun k_ => True) (Kd.R_keptB ((Kd.R_apart' HO_6.out (Kd.R_typed HO_5.out) (by decide))) hkp (fun k_ hk_ hs_ => (hk_.2) hs_)) (fun k_ hk_ => trivial)); replace BK393 := Aside0.mk (blk_kept (bk_ BK393) hkp (fun hs_ => (fun e_ => (Kd.R_ne HO_5.out BK393.out (by decide)) e_) hs_)); have HO404 := Aside0.mk (Kd.R_mono (ok' := fun k_ => k_ ≠ gb385) ho0 (fun k_ hk_ => Or.elim hk_ (fun hs_ => fun e_ => (Kd.R_away HO_5.out (fun _ hk => hk)) (by rw [← e_]; exact hs_)) (fun hn_ => (Kd.freshB (g := gb385) (o := .cells #[.int .i64 a1_0, .int .i64 a1_1] 49 (0, 0)) (bk_ BK385) k_ hn_)))); replace BK385 := Aside0.mk (blk_kept (bk_ BK385) hkp (fun hs_ => (fun e_ => (Kd.R_away HO_5.out (fun _ hk => hk)) e_) hs_)); replace HB := Aside0.mk (hb); clear HO_5; (try clear hb); (try clear hkp); (try clear ho0)))
               go_roundg kj42
               case measure => have := HK1.out; have := HJ9.out; have := HJ30.out; have := HK4.out; have := HJ42.out; omega
               case rel => exact ⟨(t402), (wrap64 (x9_4 + 1)), rf_, H', ⟨by have := HK1.out; have := HJ9.out; have := HJ30.out; have := HK4.out; have := HJ42.out; omega⟩, ⟨by (with_reducible repeat (first | apply Kd.R_alloc | apply Kd.R_drewN | apply Kd.R_drew)); exact HO404.out⟩, ⟨by (with_reducible repeat (first | apply Kd.R_alloc | apply Kd.R_drewN | apply Kd.R_drew)); exact HO_6.out⟩, ⟨bk_ BK385⟩, ⟨bk_ BK393⟩, ⟨bl_⟩⟩
              ·replace c49 := Bool.eq_false_iff.mpr c49
               subst c49
               replace H := ite_f_ H
               have H' := Aside0.mk H
               clear H
               have hnb58 := NB393_385.out
               have hnc58 := NB385_393.out
               have hcz59 := blk_cell BK393.out
               have hfz59 := blk_frozen BK393.out
               obtain ⟨Ao60, co60, eo60⟩ := Kd.R_slice HO_6.out
               subst eo60
               go_wp2_with (first | ((with_reducible refine gate_callee (f := 120) rfl ?_); refine goesC_ (some 62) Try.func120 #[.slice Ao60 t389.length co60, .agg #[.int .i64 ((rd_T56 l0 x7_1).f3.f0), .int .i64 ((rd_T56 l0 x7_1).f3.f1), .int .i64 x9_4]] ?_; (with_reducible refine (spec_l06Has.calls kj42 _ _ t389 ((rd_T56 l0 x7_1).f3.f0) ((rd_T56 l0 x7_1).f3.f1) x9_4 false _ ?side1 ?side2 A48.out).mono ?_); (case side1 => repeat (first | exact (Kd.R_reads' HO_6.out).2.2 | (with_reducible refine Kd.C_alloc ?_ _) | (with_reducible refine Kd.C_drewN ?_ _) | (with_reducible refine Kd.C_drew ?_))); (case side2 => exact (Kd.R_reads' HO_6.out).2.1); rintro e w61 ⟨rfl, hb⟩; refine ⟨_, rfl, ?_⟩; replace HO_5 := hob_ HO_5 hb; replace HO_6 := hob_ HO_6 hb; replace BK385 := bkb_ BK385 hb; replace BK393 := bkb_ BK393 hb; replace HB := hbs_ hb; clear hb))
               go_roundg kj42
               case measure => have := HK1.out; have := HJ9.out; have := HJ30.out; have := HK4.out; have := HJ42.out; omega
               case rel => exact ⟨(x5_4), (wrap64 (x9_4 + 1)), rf_, H', ⟨by have := HK1.out; have := HJ9.out; have := HJ30.out; have := HK4.out; have := HJ42.out; omega⟩, ⟨by (with_reducible repeat (first | apply Kd.R_alloc | apply Kd.R_drewN | apply Kd.R_drew)); exact HO_5.out⟩, ⟨by (with_reducible repeat (first | apply Kd.R_alloc | apply Kd.R_drewN | apply Kd.R_drew)); exact HO_6.out⟩, ⟨bk_ BK385⟩, ⟨bk_ BK393⟩, ⟨bl_⟩⟩
             ·replace c47 := Bool.eq_false_iff.mpr c47
              subst c47
              replace H := ite_f_ H
              have H' := Aside0.mk H
              clear H
              go_wp2
              go_roundg kj42
              case measure => have := HK1.out; have := HJ9.out; have := HJ30.out; have := HK4.out; have := HJ42.out; omega
              case rel => exact ⟨(x5_4), (wrap64 (x7_1 + 1)), rf_, H', ⟨by have := HK1.out; have := HJ9.out; have := HJ30.out; have := HK4.out; have := HJ42.out; omega⟩, ⟨by (with_reducible repeat (first | apply Kd.R_alloc | apply Kd.R_drewN | apply Kd.R_drew)); exact HO_5.out⟩, ⟨by (with_reducible repeat (first | apply Kd.R_alloc | apply Kd.R_drewN | apply Kd.R_drew)); exact HO_6.out⟩, ⟨bk_ BK385⟩, ⟨bl_⟩⟩
   ·rw [if_neg c8] at H
    have c8b0 : decide (x7_1 < (l0.length : Int)) = false := decide_eq_false c8
    clear c8
    obtain rfl := Option.some.inj H
    go_wp2
    go_ret
    exact ⟨_, eq_, by (with_reducible repeat (first | apply Kd.R_alloc | apply Kd.R_drewN | apply Kd.R_drew)); exact Kd.R_mono HO_5.out (fun _ hk => trivial), bl_⟩
def laws_eqRoleS.l0 : Nat → List (S49) → List (S49) → Int → Option (Bool)
 | 0, _, _, _ => none
 | k + 1, x0, x1, x5 => if x5 < (x0.length : Int) then (if 0 ≤ x5 then (if x5 < (x1.length : Int) then ((laws_eqRole.f ((rd_T49 x0 x5).f0) ((rd_T49 x0 x5).f1) ((rd_T49 x1 x5).f0) ((rd_T49 x1 x5).f1)).bind fun t407 => (if t407 = true then (laws_eqRoleS.l0 k x0 x1 (wrap64 (x5 + 1))) else (some false))) else (none)) else (none)) else (some true)
def laws_eqRoleS.f (k : Nat) (l0 : List (S49)) (l1 : List (S49)) : Option (Bool) := if (l0.length : Int) = (l1.length : Int) then (laws_eqRoleS.l0 k l0 l1 0) else (some false)
def laws_eqRoleS.T6 : Bool × List (List Nat × List Nat) := (true, [([], []), ([], []), ([0, 1], [0, 1]), ([2], [2]), ([], []), ([], []), ([4, 5], [4, 5]), ([6], [6]), ([3, 7], [3, 7]), ([8], [8])])
def laws_eqRoleS.B6 : List Nat := [0, 0, 3, 7, 0, 0, 48, 112, 255, 511]
theorem laws_eqRoleS.tab6 : rtab .any (opsOf Try.f72 6) = laws_eqRoleS.T6 := by kernel_rfl
theorem laws_eqRoleS.bits6 : waitsOk laws_eqRoleS.T6.2 laws_eqRoleS.B6 = true := by kernel_rfl
set_option maxHeartbeats 8000000 in
set_option maxRecDepth 100000 in
theorem laws_eqRoleS.calls (k : Nat) (A0 : Option Addr) (c0 : Nat) (l0 : List (S49)) (A1 : Option Addr) (c1 : Nat) (l1 : List (S49)) (r : Bool) (w : World) (hr0 : Kd.C k49 w A0 l0.length l0) (hc0 : l0.length ≤ c0) (hr1 : Kd.C k49 w A1 l1.length l1) (hc1 : l1.length ≤ c1) (h : laws_eqRoleS.f k l0 l1 = some r) :
  Calls Try.prog 72 #[.slice A0 l0.length c0, .slice A1 l1.length c1] w fun e w' => e = .returned (.bool r) ∧ Below w.heap.size w w' := by
 have hu49 := Try.underlying49
 have HR0 := Aside0.mk hr0
 have HC0 := Aside0.mk hc0
 clear hr0 hc0
 have HR1 := Aside0.mk hr1
 have HC1 := Aside0.mk hc1
 clear hr1 hc1
 have HB := Aside0.mk (Below.refl w.heap.size w)
 have H : (if (l0.length : Int) = (l1.length : Int) then (laws_eqRoleS.l0 k l0 l1 0) else (some false)) = some r := h
 clear h
 by_cases c3 : (l0.length : Int) = (l1.length : Int)
 ·rw [if_pos c3] at H
  have c3b0 : ((l0.length : Int) == (l1.length : Int)) = true := beq_iff_eq.mpr c3
  have c3b1 : ((l0.length : Int) != (l1.length : Int)) = false := bne_eq_false_iff_eq.mpr c3
  have c3b2 : (l0.length == l1.length) = true := by first | simpa using c3 | (simp at c3 ⊢; omega)
  clear c3
  have H' := Aside0.mk H
  clear H
  go_enter Try.func72, Try.ntmps72
  go_wp2
  go_loopg [5] k (fun kq v5 w' => ∃ (x5_1 : Int), v5 = .int .i64 x5_1 ∧ Aside0 (laws_eqRoleS.l0 kq l0 l1 x5_1 = some r) ∧ Aside0 (kq ≤ k) ∧ Aside0 (Below w.heap.size w w'))
  case atStart => exact ⟨(0), rf_, H', ⟨Nat.le_refl _⟩, ⟨bl_⟩⟩
  case round =>
   clear H'
   try clear c1
   try clear p2
   try clear c3
   try clear c3b0
   try clear c3b1
   try clear c3b2
   obtain ⟨x5_1, rfl, HA, HK1, HB⟩ := hrel
   cases gk with
   | zero => exact absurd HA.out (by simp [laws_eqRoleS.l0])
   | succ k1 =>
    have H := HA.out
    clear HA
    simp only [laws_eqRoleS.l0] at H
    by_cases c4 : x5_1 < (l0.length : Int)
    ·rw [if_pos c4] at H
     have c4b0 : decide (x5_1 < (l0.length : Int)) = true := decide_eq_true c4
     clear c4
     obtain ⟨c5b0, H⟩ := ifd_ H
     obtain ⟨c6b0, H⟩ := ifd_ H
     obtain ⟨t407, A7, H⟩ := bindE_ H
     by_cases c8 : t407 = true
     ·subst c8
      replace H := ite_t_ H
      have H' := Aside0.mk H
      clear H
      try go_wp2
      replace HB := Aside0.mk (below_drew1 HB.out)
      have p405 : 0 ≤ (x5_1 : Int) := od_
      have q405 : x5_1 < (l0.length : Int) := od_
      obtain ⟨ad405, e405, hx405_0, hx405_1⟩ := at_T49 HR0.out x5_1 p405 q405
      have hw405_1 := hx405_1
      have hw405_0 := hx405_0
      cases e405
      replace hx405_0 := cb_ HB hx405_0
      replace hx405_1 := cb_ HB hx405_1
      replace p405 := eq_true p405
      replace q405 := eq_true q405
      have p406 : 0 ≤ (x5_1 : Int) := od_
      have q406 : x5_1 < (l1.length : Int) := od_
      obtain ⟨ad406, e406, hx406_0, hx406_1⟩ := at_T49 HR1.out x5_1 p406 q406
      have hw406_1 := hx406_1
      have hw406_0 := hx406_0
      cases e406
      replace hx406_0 := cb_ HB hx406_0
      replace hx406_1 := cb_ HB hx406_1
      replace p406 := eq_true p406
      replace q406 := eq_true q406
      refine start_ (n := 10) (S := fun w' => w'.cell? (ad405.add ((x5_1).toNat * 2)) = some (.int .i64 ((rd_T49 l0 x5_1).f0)) ∧ w'.cell? ⟨(ad405.add ((x5_1).toNat * 2)).block, (ad405.add ((x5_1).toNat * 2)).off + 1, none⟩ = some (.int .i64 ((rd_T49 l0 x5_1).f1)) ∧ w'.cell? (ad406.add ((x5_1).toNat * 2)) = some (.int .i64 ((rd_T49 l1 x5_1).f0)) ∧ w'.cell? ⟨(ad406.add ((x5_1).toNat * 2)).block, (ad406.add ((x5_1).toNat * 2)).off + 1, none⟩ = some (.int .i64 ((rd_T49 l1 x5_1).f1))) (ds := []) #[false, false, false, false, false, false, false, false, false, false] (by kernel_rfl) rfl rfl ⟨((HB.out.cell (World.block_lt_of_cell? w _ hw405_0)).trans hw405_0), ((HB.out.cell (World.block_lt_of_cell? w _ hw405_1)).trans hw405_1), ((HB.out.cell (World.block_lt_of_cell? w _ hw406_0)).trans hw406_0), ((HB.out.cell (World.block_lt_of_cell? w _ hw406_1)).trans hw406_1)⟩ (fun hHeld => ?_); refine with_tabW laws_eqRoleS.tab6 laws_eqRoleS.bits6 (fun HT_ HW_ => ?_)
      generalize wr.drew = w9 at HB hx405_0 hx405_1 hx406_0 hx406_1 hHeld ⊢
      refine pureZ_ (i := 0) (some 17) #[true, false, false, false, false, false, false, false, false, false] (any_of HT_.out (by kernel_rfl)) ?_
      refine pureZ_ (i := 1) (some 18) #[true, true, false, false, false, false, false, false, false, false] (any_of HT_.out (by kernel_rfl)) ?_
      refine pureZ_ (i := 2) (some 19) #[true, true, true, false, false, false, false, false, false, false] (any_of HT_.out (by kernel_rfl)) ?_
      refine pureZ_ (i := 4) (some 21) #[true, true, true, false, true, false, false, false, false, false] (any_of HT_.out (by kernel_rfl)) ?_
      refine pureZ_ (i := 5) (some 22) #[true, true, true, false, true, true, false, false, false, false] (any_of HT_.out (by kernel_rfl)) ?_
      refine pureZ_ (i := 6) (some 23) #[true, true, true, false, true, true, true, false, false, false] (any_of HT_.out (by kernel_rfl)) ?_
      refine takeZ_ (i := 3) (some 20) #[true, true, true, true, true, true, true, false, false, false] (take_ofW HT_.out HW_.out (by kernel_rfl)) hHeld ?_
      refine takeZ_ (i := 7) (some 24) #[true, true, true, true, true, true, true, true, false, false] (take_ofW HT_.out HW_.out (by kernel_rfl)) hHeld ?_
      refine one_ (i := 8) (N := some 25) #[true, true, true, true, true, true, true, true, true, false] rfl rfl (one_of HT_.out (by kernel_rfl)) (by decide) (fun K hK => ?_)
      refine goes_ Try.func137 (by kernel_rfl) rfl #[.agg #[.int .i64 ((rd_T49 l0 x5_1).f0), .int .i64 ((rd_T49 l0 x5_1).f1)], .agg #[.int .i64 ((rd_T49 l1 x5_1).f0), .int .i64 ((rd_T49 l1 x5_1).f1)]] (by rfl) rfl rfl (by (try simp only [List.map_toArray, List.map_cons, List.map_nil]); first | done | rfl | (simp only [List.length_drop, List.length_take]; rfl)) ?_
      with_reducible refine (laws_eqRole.calls ((rd_T49 l0 x5_1).f0) ((rd_T49 l0 x5_1).f1) ((rd_T49 l1 x5_1).f0) ((rd_T49 l1 x5_1).f1) true _ A7.out).mono ?_
      rintro e w10 ⟨rfl, hb⟩
      refine ⟨_, rfl, ?_⟩
      replace HB := hbs_ hb
      (try clear hb)
      (try clear hb2)
      (try clear hk)
      (try clear hi)
      refine hK.out _ _ ⟨((HB.out.cell (World.block_lt_of_cell? w _ hw405_0)).trans hw405_0), ((HB.out.cell (World.block_lt_of_cell? w _ hw405_1)).trans hw405_1), ((HB.out.cell (World.block_lt_of_cell? w _ hw406_0)).trans hw406_0), ((HB.out.cell (World.block_lt_of_cell? w _ hw406_1)).trans hw406_1)⟩ (fun hHeld => ?_)
      clear hK K
      refine norm_ (a' := ?_) ?_ ?_
      rotate_left
      ·show Act.put _ (some 25) _ = _
       simp only [Act.put, List.setIfInBounds_toArray, List.set_cons_zero, List.set_cons_succ, i64_w, i32_w]
       rfl
      refine pureZ_ (i := 9) (some 26) #[true, true, true, true, true, true, true, true, true, true] (any_of HT_.out (by kernel_rfl)) ?_
      refine done_ (done_of HT_.out (by kernel_rfl)) ?_
      try go_wp2
      go_roundg k1
      case measure => have := HK1.out; omega
      case rel => exact ⟨(wrap64 (x5_1 + 1)), rf_, H', ⟨by have := HK1.out; omega⟩, ⟨bl_⟩⟩
     ·replace c8 := Bool.eq_false_iff.mpr c8
      subst c8
      replace H := ite_f_ H
      obtain rfl := Option.some.inj H
      try go_wp2
      replace HB := Aside0.mk (below_drew1 HB.out)
      have p405 : 0 ≤ (x5_1 : Int) := od_
      have q405 : x5_1 < (l0.length : Int) := od_
      obtain ⟨ad405, e405, hx405_0, hx405_1⟩ := at_T49 HR0.out x5_1 p405 q405
      have hw405_1 := hx405_1
      have hw405_0 := hx405_0
      cases e405
      replace hx405_0 := cb_ HB hx405_0
      replace hx405_1 := cb_ HB hx405_1
      replace p405 := eq_true p405
      replace q405 := eq_true q405
      have p406 : 0 ≤ (x5_1 : Int) := od_
      have q406 : x5_1 < (l1.length : Int) := od_
      obtain ⟨ad406, e406, hx406_0, hx406_1⟩ := at_T49 HR1.out x5_1 p406 q406
      have hw406_1 := hx406_1
      have hw406_0 := hx406_0
      cases e406
      replace hx406_0 := cb_ HB hx406_0
      replace hx406_1 := cb_ HB hx406_1
      replace p406 := eq_true p406
      replace q406 := eq_true q406
      refine start_ (n := 10) (S := fun w' => w'.cell? (ad405.add ((x5_1).toNat * 2)) = some (.int .i64 ((rd_T49 l0 x5_1).f0)) ∧ w'.cell? ⟨(ad405.add ((x5_1).toNat * 2)).block, (ad405.add ((x5_1).toNat * 2)).off + 1, none⟩ = some (.int .i64 ((rd_T49 l0 x5_1).f1)) ∧ w'.cell? (ad406.add ((x5_1).toNat * 2)) = some (.int .i64 ((rd_T49 l1 x5_1).f0)) ∧ w'.cell? ⟨(ad406.add ((x5_1).toNat * 2)).block, (ad406.add ((x5_1).toNat * 2)).off + 1, none⟩ = some (.int .i64 ((rd_T49 l1 x5_1).f1))) (ds := []) #[false, false, false, false, false, false, false, false, false, false] (by kernel_rfl) rfl rfl ⟨((HB.out.cell (World.block_lt_of_cell? w _ hw405_0)).trans hw405_0), ((HB.out.cell (World.block_lt_of_cell? w _ hw405_1)).trans hw405_1), ((HB.out.cell (World.block_lt_of_cell? w _ hw406_0)).trans hw406_0), ((HB.out.cell (World.block_lt_of_cell? w _ hw406_1)).trans hw406_1)⟩ (fun hHeld => ?_); refine with_tabW laws_eqRoleS.tab6 laws_eqRoleS.bits6 (fun HT_ HW_ => ?_)
      generalize wr.drew = w11 at HB hx405_0 hx405_1 hx406_0 hx406_1 hHeld ⊢
      refine pureZ_ (i := 0) (some 17) #[true, false, false, false, false, false, false, false, false, false] (any_of HT_.out (by kernel_rfl)) ?_
      refine pureZ_ (i := 1) (some 18) #[true, true, false, false, false, false, false, false, false, false] (any_of HT_.out (by kernel_rfl)) ?_
      refine pureZ_ (i := 2) (some 19) #[true, true, true, false, false, false, false, false, false, false] (any_of HT_.out (by kernel_rfl)) ?_
      refine pureZ_ (i := 4) (some 21) #[true, true, true, false, true, false, false, false, false, false] (any_of HT_.out (by kernel_rfl)) ?_
      refine pureZ_ (i := 5) (some 22) #[true, true, true, false, true, true, false, false, false, false] (any_of HT_.out (by kernel_rfl)) ?_
      refine pureZ_ (i := 6) (some 23) #[true, true, true, false, true, true, true, false, false, false] (any_of HT_.out (by kernel_rfl)) ?_
      refine takeZ_ (i := 3) (some 20) #[true, true, true, true, true, true, true, false, false, false] (take_ofW HT_.out HW_.out (by kernel_rfl)) hHeld ?_
      refine takeZ_ (i := 7) (some 24) #[true, true, true, true, true, true, true, true, false, false] (take_ofW HT_.out HW_.out (by kernel_rfl)) hHeld ?_
      refine one_ (i := 8) (N := some 25) #[true, true, true, true, true, true, true, true, true, false] rfl rfl (one_of HT_.out (by kernel_rfl)) (by decide) (fun K hK => ?_)
      refine goes_ Try.func137 (by kernel_rfl) rfl #[.agg #[.int .i64 ((rd_T49 l0 x5_1).f0), .int .i64 ((rd_T49 l0 x5_1).f1)], .agg #[.int .i64 ((rd_T49 l1 x5_1).f0), .int .i64 ((rd_T49 l1 x5_1).f1)]] (by rfl) rfl rfl (by (try simp only [List.map_toArray, List.map_cons, List.map_nil]); first | done | rfl | (simp only [List.length_drop, List.length_take]; rfl)) ?_
      with_reducible refine (laws_eqRole.calls ((rd_T49 l0 x5_1).f0) ((rd_T49 l0 x5_1).f1) ((rd_T49 l1 x5_1).f0) ((rd_T49 l1 x5_1).f1) false _ A7.out).mono ?_
      rintro e w12 ⟨rfl, hb⟩
      refine ⟨_, rfl, ?_⟩
      replace HB := hbs_ hb
      (try clear hb)
      (try clear hb2)
      (try clear hk)
      (try clear hi)
      refine hK.out _ _ ⟨((HB.out.cell (World.block_lt_of_cell? w _ hw405_0)).trans hw405_0), ((HB.out.cell (World.block_lt_of_cell? w _ hw405_1)).trans hw405_1), ((HB.out.cell (World.block_lt_of_cell? w _ hw406_0)).trans hw406_0), ((HB.out.cell (World.block_lt_of_cell? w _ hw406_1)).trans hw406_1)⟩ (fun hHeld => ?_)
      clear hK K
      refine norm_ (a' := ?_) ?_ ?_
      rotate_left
      ·show Act.put _ (some 25) _ = _
       simp only [Act.put, List.setIfInBounds_toArray, List.set_cons_zero, List.set_cons_succ, i64_w, i32_w]
       rfl
      refine pureZ_ (i := 9) (some 26) #[true, true, true, true, true, true, true, true, true, true] (any_of HT_.out (by kernel_rfl)) ?_
      refine done_ (done_of HT_.out (by kernel_rfl)) ?_
      try go_wp2
      go_ret
      exact ⟨eq_, bl_⟩
    ·rw [if_neg c4] at H
     have c4b0 : decide (x5_1 < (l0.length : Int)) = false := decide_eq_false c4
     clear c4
     obtain rfl := Option.some.inj H
     go_wp2
     go_ret
     exact ⟨eq_, bl_⟩
 ·rw [if_neg c3] at H
  have c3b0 : ((l0.length : Int) == (l1.length : Int)) = false := beq_eq_false_iff_ne.mpr c3
  have c3b1 : ((l0.length : Int) != (l1.length : Int)) = true := bne_iff_ne.mpr c3
  have c3b2 : (l0.length == l1.length) = false := by first | simpa using c3 | (simp at c3 ⊢; omega)
  obtain rfl := Option.some.inj H
  go_enter Try.func72, Try.ntmps72
  go_wp2
  go_ret
  exact ⟨eq_, bl_⟩
end Go.Proofs.Ytjpjidgfcljpcaa.PA
