import Derived.Test.YtppdmcimddhbaaaKNPEx19
-- printed by wip/tools
namespace Go.Proofs.Ytppdmcimddhbaaa.PE
open Go.RowKit Go.Proofs.YtppdmcimddhbaaaW.PrintWords Go.Proofs.YtppdmcimddhbaaaW.PrintLast Go.Proofs.YtppdmcimddhbaaaW.PrintMore
attribute [local go_sem] max2_int min2_int max_two min_two max_three min_three max_four min_four
set_option linter.unusedVariables false
set_option linter.unusedSimpArgs false
attribute [local go_sem high] eqA27
def spec_Decides.l0 : Nat → Int → List (S29) → List Bool → Int → List (S71) → Option (Bool)
 | 0, _, _, _, _, _ => none
 | k + 1, x2, x7, x8, x9, x631000 => if x9 < (x631000.length : Int) then (if 0 ≤ x9 then (if ((rd_T71 x631000 x9).f0) = 1 then ((spec_l06Has.f k x7 ((rd_T71 x631000 x9).f1.f0) ((rd_T71 x631000 x9).f1.f1) x2).bind fun t641 => (if x8.length < 140737488355328 then (spec_Decides.l0 k x2 x7 (x8 ++ [t641]) (wrap64 (x9 + 1)) x631000) else (none))) else (if ((rd_T71 x631000 x9).f0) = 2 then (if 0 ≤ ((rd_T71 x631000 x9).f2) then (if ((rd_T71 x631000 x9).f2) < (x8.length : Int) then (if rdOf false x8 ((rd_T71 x631000 x9).f2) = true then (if 0 ≤ ((rd_T71 x631000 x9).f3) then (if ((rd_T71 x631000 x9).f3) < (x8.length : Int) then (if x8.length < 140737488355328 then (spec_Decides.l0 k x2 x7 (x8 ++ [rdOf false x8 ((rd_T71 x631000 x9).f3)]) (wrap64 (x9 + 1)) x631000) else (none)) else (none)) else (none)) else (if x8.length < 140737488355328 then (spec_Decides.l0 k x2 x7 (x8 ++ [false]) (wrap64 (x9 + 1)) x631000) else (none))) else (none)) else (none)) else (if ((rd_T71 x631000 x9).f0) = 3 then (if 0 ≤ ((rd_T71 x631000 x9).f2) then (if ((rd_T71 x631000 x9).f2) < (x8.length : Int) then (if rdOf false x8 ((rd_T71 x631000 x9).f2) = true then (if x8.length < 140737488355328 then (spec_Decides.l0 k x2 x7 (x8 ++ [true]) (wrap64 (x9 + 1)) x631000) else (none)) else (if 0 ≤ ((rd_T71 x631000 x9).f3) then (if ((rd_T71 x631000 x9).f3) < (x8.length : Int) then (if x8.length < 140737488355328 then (spec_Decides.l0 k x2 x7 (x8 ++ [rdOf false x8 ((rd_T71 x631000 x9).f3)]) (wrap64 (x9 + 1)) x631000) else (none)) else (none)) else (none))) else (none)) else (none)) else (if 0 ≤ ((rd_T71 x631000 x9).f2) then (if ((rd_T71 x631000 x9).f2) < (x8.length : Int) then (if x8.length < 140737488355328 then (spec_Decides.l0 k x2 x7 (x8 ++ [!(rdOf false x8 ((rd_T71 x631000 x9).f2))]) (wrap64 (x9 + 1)) x631000) else (none)) else (none)) else (none))))) else (none)) else (if 0 ≤ (wrap64 ((x8.length : Int) - 1)) then (if (wrap64 ((x8.length : Int) - 1)) < (x8.length : Int) then (some (rdOf false x8 (wrap64 ((x8.length : Int) - 1)))) else (none)) else (none))
def spec_Decides.f (k : Nat) (l0 : List (S46)) (l1_0 : List (S71)) (a2 : Int) : Option (Bool) := (spec_PolicyOk.f k l1_0).bind fun t631 => (if t631 = true then ((spec_FactsOf.f k l0).bind fun t632 => (spec_Decides.l0 k a2 t632 (([] : List Bool)) 0 l1_0)) else (some false))
set_option maxHeartbeats 8000000 in
set_option maxRecDepth 100000 in
theorem spec_Decides.calls (k : Nat) (A0 : Option Addr) (c0 : Nat) (l0 : List (S46)) (A1_0 : Option Addr) (c1_0 : Nat) (l1_0 : List (S71)) (a2 : Int) (r : Bool) (w : World) (hr0 : Kd.C k46 w A0 l0.length l0) (hc0 : l0.length ≤ c0) (hr1_0 : Kd.C k71 w A1_0 l1_0.length l1_0) (hc1_0 : l1_0.length ≤ c1_0) (h : spec_Decides.f k l0 l1_0 a2 = some r) :
  Calls Try.prog 64 #[.slice A0 l0.length c0, .agg #[.slice A1_0 l1_0.length c1_0], .int .i64 a2] w fun e w' => e = .returned (.bool r) ∧ Below w.heap.size w w' := by
 have hu68 := Try.underlying68
 have hu71 := Try.underlying71
 have hu27 := Try.underlying27
 have hu29 := Try.underlying29
 have HR0 := Aside0.mk hr0
 have HC0 := Aside0.mk hc0
 clear hr0 hc0
 have HR1_0 := Aside0.mk hr1_0
 have HC1_0 := Aside0.mk hc1_0
 clear hr1_0 hc1_0
 have HB := Aside0.mk (Below.refl w.heap.size w)
 have H : ((spec_PolicyOk.f k l1_0).bind fun t631 => (if t631 = true then ((spec_FactsOf.f k l0).bind fun t632 => (spec_Decides.l0 k a2 t632 (([] : List Bool)) 0 l1_0)) else (some false))) = some r := h
 clear h
 obtain ⟨t631, A4, H⟩ := bindE_ H
 by_cases c5 : t631 = true
 ·subst c5
  replace H := ite_t_ H
  obtain ⟨t632, A6, H⟩ := bindE_ H
  obtain ⟨y635, hy635⟩ : ∃ y_ : List Bool, y_ = (([] : List Bool)) := ⟨_, rfl⟩
  replace H : (spec_Decides.l0 k a2 t632 y635 0 l1_0) = some r := by first | (rw [hy635]; with_reducible exact H) | (have H2_ := (Option.bind_some _ _).symm.trans H; rw [hy635]; with_reducible exact H2_) | (have H2_ := (Option.bind_some _ _).symm.trans H; with_reducible exact H2_) | with_reducible exact H | (rw [hy635]; exact H) | exact H
  have Ny635 := Aside0.mk hy635
  clear hy635
  have H' := Aside0.mk H
  clear H
  go_enter Try.func64, Try.ntmps64
  go_wp2_with (first | ((with_reducible refine gate_dst (N := 4) rfl ?_); refine box_event ?hg (N := 4) ?hd (cs := #[.slice A1_0 l1_0.length c1_0]) (t := 68) ?hr ?_; (case hd => rfl); (case hg => rfl); (case hr => first | (go_simp; done) | (go_simp; rfl)); intro gb630 hg w7 hbox hb; have BK630 := Aside0.mk (hbox); have GW630 := gs_ hg; have GE630 := gs_ hg; replace HB := hbs_ hb; clear hb hbox hg; have hcz8 := blk_cell BK630.out; have hfz8 := blk_frozen BK630.out) | ((with_reducible refine gate_callee (f := 111) rfl ?_); refine goesC_ (some 13) Try.func111 #[.agg #[.slice A1_0 l1_0.length c1_0]] ?_; (with_reducible refine (spec_PolicyOk.calls k _ _ l1_0 true _ ?side1 ?side2 A4.out).mono ?_); (case side1 => repeat (first | exact (Kd.C_below HR1_0.out HB.out) | (with_reducible refine Kd.C_alloc ?_ _) | (with_reducible refine Kd.C_drewN ?_ _) | (with_reducible refine Kd.C_drew ?_))); (case side2 => exact HC1_0.out); rintro e w9 ⟨rfl, hb⟩; refine ⟨_, rfl, ?_⟩; replace BK630 := bkb_ BK630 hb; replace HB := hbs_ hb; clear hb) | ((with_reducible refine gate_callee (f := 73) rfl ?_); refine goesC_ (some 16) Try.func73 #[.slice A0 l0.length c0] ?_; (with_reducible refine (spec_FactsOf.calls k _ _ l0 t632 _ ?side1 ?side2 A6.out).mono ?_); (case side1 => repeat (first | exact (Kd.C_below HR0.out HB.out) | (with_reducible refine Kd.C_alloc ?_ _) | (with_reducible refine Kd.C_drewN ?_ _) | (with_reducible refine Kd.C_drew ?_))); (case side2 => exact HC0.out); rintro e w10 ⟨v633, rfl, ho0, hb⟩; refine ⟨_, rfl, ?_⟩; have HO634 := Aside0.mk (Kd.R_lower ho0 bls_); replace BK630 := bkb_ BK630 hb; replace HB := hbs_ hb; (try clear hb); (try clear hb2); (try clear hk); (try clear hi); (try clear ho0)) | ((with_reducible refine gate_dst (N := 17) rfl ?_); refine Kd.R_lit Kd.bool _ 4 ?hg (N := 17) ?hd (xs := ([] : List Bool)) (inner := []) (ok := fun _ => True) (okp := fun _ => True) ?hr ?hp (fun _ hk => hk) trivial (Below.refl _ _) (Nat.le_refl _) (by simp) ?_; (case hd => rfl); (case hg => rfl); (case hr => first | (go_simp; done) | (go_simp; rfl)); (case hp => exact (Reps.none _ _)); intro v636 w11 ho12 hb hg_ hnew_; clear hg_ hnew_; (first | rw [← Ny635.out] at ho12 | (simp only [Int.reduceToNat] at ho12; rw [← Ny635.out] at ho12)); replace HO634 := hob_ HO634 hb; have HO637 := Aside0.mk (Kd.R_lower ho12 bls_); replace BK630 := bkb_ BK630 hb; replace HB := hbs_ hb; clear hb ho12))
  go_loopg [8, 9] k (fun kq v8 v9 w' => ∃ (x8_1 : List Bool) (x9_1 : Int), v9 = .int .i64 x9_1 ∧ Aside0 (spec_Decides.l0 kq a2 t632 x8_1 x9_1 l1_0 = some r) ∧ Aside0 (kq ≤ k) ∧ Aside0 (Kd.R k29 29 w' w.heap.size (fun _ => True) v633 t632) ∧ Aside0 (Kd.R Kd.bool 4 w' w.heap.size (fun _ => True) v8 x8_1) ∧ Aside0 (w'.heap[gb630]? = some (.cells #[(.slice A1_0 l1_0.length c1_0)] 68 (0, 0))) ∧ Aside0 (Below w.heap.size w w'))
  case atStart => exact ⟨(y635), (0), rf_, H', ⟨Nat.le_refl _⟩, ⟨by (with_reducible repeat (first | apply Kd.R_alloc | apply Kd.R_drewN | apply Kd.R_drew)); exact HO634.out⟩, ⟨by (with_reducible repeat (first | apply Kd.R_alloc | apply Kd.R_drewN | apply Kd.R_drew)); exact HO637.out⟩, ⟨bk_ BK630⟩, ⟨bl_⟩⟩
  case round =>
   clear H'
   try clear c1
   try clear p2
   try clear c5
   try clear c6
   try clear c7
   try clear c11
   try clear hcz8
   try clear hfz8
   obtain ⟨x8_1, x9_1, rfl, HA, HK1, HO_7, HO_8, BK630, HB⟩ := hrel
   cases gk with
   | zero => exact absurd HA.out (by simp [spec_Decides.l0])
   | succ k1 =>
    have H := HA.out
    clear HA
    simp only [spec_Decides.l0] at H
    by_cases c13 : x9_1 < (l1_0.length : Int)
    ·rw [if_pos c13] at H
     have c13b0 : decide (x9_1 < (l1_0.length : Int)) = true := decide_eq_true c13
     clear c13
     obtain ⟨c14b0, H⟩ := ifd_ H
     by_cases c15 : ((rd_T71 l1_0 x9_1).f0) = 1
     ·rw [if_pos c15] at H
      have c15b0 : (((rd_T71 l1_0 x9_1).f0) == 1) = true := beq_iff_eq.mpr c15
      have c15b1 : (((rd_T71 l1_0 x9_1).f0) != 1) = false := bne_eq_false_iff_eq.mpr c15
      clear c15
      obtain ⟨t641, A16, H⟩ := bindE_ H
      obtain ⟨c17, H⟩ := ifn_ H
      have LMc17 := Aside0.mk c17
      clear c17
      obtain ⟨y642, hy642⟩ : ∃ y_ : List Bool, y_ = (x8_1 ++ [t641]) := ⟨_, rfl⟩
      replace H : (spec_Decides.l0 k1 a2 t632 y642 (wrap64 (x9_1 + 1)) l1_0) = some r := by first | (rw [hy642]; with_reducible exact H) | (have H2_ := (Option.bind_some _ _).symm.trans H; rw [hy642]; with_reducible exact H2_) | (have H2_ := (Option.bind_some _ _).symm.trans H; with_reducible exact H2_) | with_reducible exact H | (rw [hy642]; exact H) | exact H
      have Ny642 := Aside0.mk hy642
      clear hy642
      have H' := Aside0.mk H
      clear H
      have hcz18 := blk_cell BK630.out
      have hfz18 := blk_frozen BK630.out
      have p639 : 0 ≤ (x9_1 : Int) := od_
      have q639 : x9_1 < (l1_0.length : Int) := od_
      obtain ⟨ad639, e639, hx639_0, hx639_1, hx639_2, hx639_3, hx639_4⟩ := at_T71 (Kd.C_below HR1_0.out HB.out) x9_1 p639 q639
      cases e639
      replace p639 := eq_true p639
      replace q639 := eq_true q639
      go_wp2_with (first | ((with_reducible refine gate_dst (N := 10) rfl ?_); refine box_event ?hg (N := 10) ?hd (cs := #[.int .i64 0, .int .i64 0, .int .i64 0, .int .i64 0, .int .i64 0]) (t := 71) ?hr ?_; (case hd => rfl); (case hg => rfl); (case hr => first | (go_simp; done) | (go_simp; rfl)); intro gb640 hg w19 hbox hb; replace HO_7 := hob_ HO_7 hb; replace HO_8 := hob_ HO_8 hb; have BK640 := Aside0.mk (hbox); have GW640 := gs_ hg; have GE640 := gs_ hg; replace HB := hbs_ hb; have NB630_640 := nl_ hg BK630; have NB640_630 := nr_ hg BK630; replace BK630 := bkb_ BK630 hb; clear hb hbox hg; have hnb20 := NB640_630.out; have hnc20 := NB630_640.out; have hcz21 := blk_cell BK640.out; have hfz21 := blk_frozen BK640.out; obtain ⟨Ao22, co22, eo22⟩ := Kd.R_slice HO_7.out; subst eo22) | ((with_reducible refine gate_callee (f := 77) rfl ?_); refine goesC_ (some 45) Try.func77 #[.slice Ao22 t632.length co22, .agg #[.int .i64 ((rd_T71 l1_0 x9_1).f1.f0), .int .i64 ((rd_T71 l1_0 x9_1).f1.f1), .int .i64 a2]] ?_; (with_reducible refine (spec_l06Has.calls k1 _ _ t632 ((rd_T71 l1_0 x9_1).f1.f0) ((rd_T71 l1_0 x9_1).f1.f1) a2 t641 _ ?side1 ?side2 A16.out).mono ?_); (case side1 => refine (Kd.R_reads' (e := 29) (base := w.heap.size) (ok := fun k_ => True) (n := t632.length) (c := co22) ?_).2.2; exact (by (with_reducible repeat (first | apply Kd.R_alloc | apply Kd.R_drewN | apply Kd.R_drew)); exact (Kd.R_mono (Kd.R_far (p := ⟨gb640, 4, none⟩) (Kd.R_far (p := ⟨gb640, 3, none⟩) (Kd.R_far (p := ⟨gb640, 2, none⟩) (Kd.R_far (p := ⟨gb640, 1, none⟩) (Kd.R_far (p := ⟨gb640, 0, none⟩) (Kd.R_types HO_7.out BK640.out (by decide)) (fun _ hk => hk.2) (.int .i64 ((rd_T71 l1_0 x9_1).f0))) (fun _ hk => hk.2) (.int .i64 ((rd_T71 l1_0 x9_1).f1.f0))) (fun _ hk => hk.2) (.int .i64 ((rd_T71 l1_0 x9_1).f1.f1))) (fun _ hk => hk.2) (.int .i64 ((rd_T71 l1_0 x9_1).f2))) (fun _ hk => hk.2) (.int .i64 ((rd_T71 l1_0 x9_1).f3))) (fun _ h_ => h_.1)))); (case side2 => exact (Kd.R_reads' HO_7.out).2.1); rintro e w23 ⟨rfl, hb⟩; refine ⟨_, rfl, ?_⟩; replace HO_7 := Aside0.mk (Kd.R_below (by (with_reducible repeat (first | apply Kd.R_alloc | apply Kd.R_drewN | apply Kd.R_drew)); exact (Kd.R_mono (Kd.R_far (p := ⟨gb640, 4, none⟩) (Kd.R_far (p := ⟨gb640, 3, none⟩) (Kd.R_far (p := ⟨gb640, 2, none⟩) (Kd.R_far (p := ⟨gb640, 1, none⟩) (Kd.R_far (p := ⟨gb640, 0, none⟩) (Kd.R_types HO_7.out BK640.out (by decide)) (fun _ hk => hk.2) (.int .i64 ((rd_T71 l1_0 x9_1).f0))) (fun _ hk => hk.2) (.int .i64 ((rd_T71 l1_0 x9_1).f1.f0))) (fun _ hk => hk.2) (.int .i64 ((rd_T71 l1_0 x9_1).f1.f1))) (fun _ hk => hk.2) (.int .i64 ((rd_T71 l1_0 x9_1).f2))) (fun _ hk => hk.2) (.int .i64 ((rd_T71 l1_0 x9_1).f3))) (fun _ h_ => h_.1))) hb); replace HO_8 := Aside0.mk (Kd.R_below (by (with_reducible repeat (first | apply Kd.R_alloc | apply Kd.R_drewN | apply Kd.R_drew)); exact (Kd.R_mono (Kd.R_far (p := ⟨gb640, 4, none⟩) (Kd.R_far (p := ⟨gb640, 3, none⟩) (Kd.R_far (p := ⟨gb640, 2, none⟩) (Kd.R_far (p := ⟨gb640, 1, none⟩) (Kd.R_far (p := ⟨gb640, 0, none⟩) (Kd.R_types HO_8.out BK640.out (by decide)) (fun _ hk => hk.2) (.int .i64 ((rd_T71 l1_0 x9_1).f0))) (fun _ hk => hk.2) (.int .i64 ((rd_T71 l1_0 x9_1).f1.f0))) (fun _ hk => hk.2) (.int .i64 ((rd_T71 l1_0 x9_1).f1.f1))) (fun _ hk => hk.2) (.int .i64 ((rd_T71 l1_0 x9_1).f2))) (fun _ hk => hk.2) (.int .i64 ((rd_T71 l1_0 x9_1).f3))) (fun _ h_ => h_.1))) hb); replace BK630 := Aside0.mk (blk_below (g := gb630) (o := .cells #[.slice (some ad639) l1_0.length c1_0] 68 (0, 0)) (bk_ BK630) hb); replace BK640 := Aside0.mk (blk_below (g := gb640) (o := .cells #[.int .i64 ((rd_T71 l1_0 x9_1).f0), .int .i64 ((rd_T71 l1_0 x9_1).f1.f0), .int .i64 ((rd_T71 l1_0 x9_1).f1.f1), .int .i64 ((rd_T71 l1_0 x9_1).f2), .int .i64 ((rd_T71 l1_0 x9_1).f3)] 71 (0, 0)) (bk_ BK640) hb); replace HB := hbs_ hb; clear hb) | ((with_reducible refine gate_builtin (b := .append) (xs := #[.tmp 74, .tmp 76]) rfl ?_); at_builtin; refine Kd.R_append Kd.bool (w0 := w) w.heap.size rfl (.tmp 74) (.tmp 76) 103 4 (.bool false) 1 rfl Try.underlying103 info4 rfl (by decide) (by omega) u8 x8_1 t641 [.bool t641] (fun _ => True) (fun _ => False) rfl rfl ?aP (fun _ hk => hk.elim) ?aF ?aO ?aB ?aS ?aL ?_; (case aP => exact rfl); (case aB => exact bl_); (case aF => exact (fun _ _ => trivial)); (case aO => exact (by (with_reducible repeat (first | apply Kd.R_alloc | apply Kd.R_drewN | apply Kd.R_drew)); exact HO_8.out)); (case aS => exact bls_); (case aL => have := LMc17.out; omega); intro v643 w24 ho hb hg hat; rw [← Ny642.out] at ho; replace HO_7 := Aside0.mk (Kd.R_over' (by (with_reducible repeat (first | apply Kd.R_alloc | apply Kd.R_drewN | apply Kd.R_drew)); exact HO_7.out) (Kd.R_typed (by (with_reducible repeat (first | apply Kd.R_alloc | apply Kd.R_drewN | apply Kd.R_drew)); exact HO_8.out)) (by decide) hg); replace BK630 := Aside0.mk (blk_grown (g := gb630) (o := .cells #[.slice (some ad639) l1_0.length c1_0] 68 (0, 0)) (bk_ BK630) hg (Kd.R_ne HO_8.out BK630.out (by decide))); replace BK640 := Aside0.mk (blk_grown (g := gb640) (o := .cells #[.int .i64 ((rd_T71 l1_0 x9_1).f0), .int .i64 ((rd_T71 l1_0 x9_1).f1.f0), .int .i64 ((rd_T71 l1_0 x9_1).f1.f1), .int .i64 ((rd_T71 l1_0 x9_1).f2), .int .i64 ((rd_T71 l1_0 x9_1).f3)] 71 (0, 0)) (bk_ BK640) hg (Kd.R_ne HO_8.out BK640.out (by decide))); replace HB := Aside0.mk (hb); have HO644 := Aside0.mk (ho); clear HO_8; clear ho hb hg hat))
      go_roundg k1
      case measure => have := HK1.out; omega
      case rel => exact ⟨(y642), (wrap64 (x9_1 + 1)), rf_, H', ⟨by have := HK1.out; omega⟩, ⟨by (with_reducible repeat (first | apply Kd.R_alloc | apply Kd.R_drewN | apply Kd.R_drew)); exact HO_7.out⟩, ⟨by (with_reducible repeat (first | apply Kd.R_alloc | apply Kd.R_drewN | apply Kd.R_drew)); exact HO644.out⟩, ⟨bk_ BK630⟩, ⟨bl_⟩⟩
     ·rw [if_neg c15] at H
      have c15b0 : (((rd_T71 l1_0 x9_1).f0) == 1) = false := beq_eq_false_iff_ne.mpr c15
      have c15b1 : (((rd_T71 l1_0 x9_1).f0) != 1) = true := bne_iff_ne.mpr c15
      by_cases c25 : ((rd_T71 l1_0 x9_1).f0) = 2
      ·rw [if_pos c25] at H
       have c25b0 : (((rd_T71 l1_0 x9_1).f0) == 2) = true := beq_iff_eq.mpr c25
       have c25b1 : (((rd_T71 l1_0 x9_1).f0) != 2) = false := bne_eq_false_iff_eq.mpr c25
       clear c25
       obtain ⟨c26b0, H⟩ := ifd_ H
       obtain ⟨c27b0, H⟩ := ifd_ H
       obtain ⟨bq28, hbq28⟩ : ∃ b_ : Bool, b_ = (rdOf false x8_1 ((rd_T71 l1_0 x9_1).f2)) := ⟨_, rfl⟩
       replace H : (if bq28 = true then (if 0 ≤ ((rd_T71 l1_0 x9_1).f3) then (if ((rd_T71 l1_0 x9_1).f3) < (x8_1.length : Int) then (if x8_1.length < 140737488355328 then (spec_Decides.l0 k1 a2 t632 (x8_1 ++ [rdOf false x8_1 ((rd_T71 l1_0 x9_1).f3)]) (wrap64 (x9_1 + 1)) l1_0) else (none)) else (none)) else (none)) else (if x8_1.length < 140737488355328 then (spec_Decides.l0 k1 a2 t632 (x8_1 ++ [false]) (wrap64 (x9_1 + 1)) l1_0) else (none))) = some r := by rw [← hbq28] at H; exact H
       have Nbq28 := Aside0.mk hbq28
       clear hbq28
       by_cases c29 : bq28 = true
       ·subst c29
        replace H := ite_t_ H
        obtain ⟨c30b0, H⟩ := ifd_ H
        obtain ⟨c31b0, H⟩ := ifd_ H
        obtain ⟨c32, H⟩ := ifn_ H
        have LMc32 := Aside0.mk c32
        clear c32
        obtain ⟨y647, hy647⟩ : ∃ y_ : List Bool, y_ = (x8_1 ++ [rdOf false x8_1 ((rd_T71 l1_0 x9_1).f3)]) := ⟨_, rfl⟩
        replace H : (spec_Decides.l0 k1 a2 t632 y647 (wrap64 (x9_1 + 1)) l1_0) = some r := by first | (rw [hy647]; with_reducible exact H) | (have H2_ := (Option.bind_some _ _).symm.trans H; rw [hy647]; with_reducible exact H2_) | (have H2_ := (Option.bind_some _ _).symm.trans H; with_reducible exact H2_) | with_reducible exact H | (rw [hy647]; exact H) | exact H
        have Ny647 := Aside0.mk hy647
        clear hy647
        have H' := Aside0.mk H
        clear H
        have hcz33 := blk_cell BK630.out
        have hfz33 := blk_frozen BK630.out
        have p639 : 0 ≤ (x9_1 : Int) := od_
        have q639 : x9_1 < (l1_0.length : Int) := od_
        obtain ⟨ad639, e639, hx639_0, hx639_1, hx639_2, hx639_3, hx639_4⟩ := at_T71 (Kd.C_below HR1_0.out HB.out) x9_1 p639 q639
        cases e639
        replace p639 := eq_true p639
        replace q639 := eq_true q639
        go_wp2_with (first | ((with_reducible refine gate_dst (N := 10) rfl ?_); refine box_event ?hg (N := 10) ?hd (cs := #[.int .i64 0, .int .i64 0, .int .i64 0, .int .i64 0, .int .i64 0]) (t := 71) ?hr ?_; (case hd => rfl); (case hg => rfl); (case hr => first | (go_simp; done) | (go_simp; rfl)); intro gb640 hg w34 hbox hb; replace HO_7 := hob_ HO_7 hb; replace HO_8 := hob_ HO_8 hb; have BK640 := Aside0.mk (hbox); have GW640 := gs_ hg; have GE640 := gs_ hg; replace HB := hbs_ hb; have NB630_640 := nl_ hg BK630; have NB640_630 := nr_ hg BK630; replace BK630 := bkb_ BK630 hb; clear hb hbox hg; have hnb35 := NB640_630.out; have hnc35 := NB630_640.out; have hcz36 := blk_cell BK640.out; have hfz36 := blk_frozen BK640.out; obtain ⟨Ao37, co37, eo37⟩ := Kd.R_slice HO_8.out; subst eo37; have p645 : 0 ≤ (((rd_T71 l1_0 x9_1).f2) : Int) := od_; have q645 : ((rd_T71 l1_0 x9_1).f2) < (x8_1.length : Int) := od_; obtain ⟨ad645, e645, hx645_0⟩ := Kd.at_bool (Kd.R_reads' HO_8.out).2.2 ((rd_T71 l1_0 x9_1).f2) p645 q645; (try rw [← Nbq28.out] at hx645_0); cases e645; have hn645_0 : ad645.block ≠ gb640 := Kd.own_blk (Kd.R_ne HO_8.out BK640.out (by decide)); have hn645_1 : ad645.block ≠ gb640 := Kd.own_blk (Kd.R_ne HO_8.out BK640.out (by decide)); have hn645_2 : ad645.block ≠ gb640 := Kd.own_blk (Kd.R_ne HO_8.out BK640.out (by decide)); have hn645_3 : ad645.block ≠ gb640 := Kd.own_blk (Kd.R_ne HO_8.out BK640.out (by decide)); have hn645_4 : ad645.block ≠ gb640 := Kd.own_blk (Kd.R_ne HO_8.out BK640.out (by decide)); replace hx645_0 := (cell_far (p := ⟨gb640, 0, none⟩) (by first | (rw [add_block]; exact hn645_0) | (show (Addr.add _ _).block ≠ _; rw [add_block]; exact hn645_0) | exact hn645_0) (.int .i64 ((rd_T71 l1_0 x9_1).f0))).trans hx645_0; replace hx645_0 := (cell_far (p := ⟨gb640, 1, none⟩) (by first | (rw [add_block]; exact hn645_1) | (show (Addr.add _ _).block ≠ _; rw [add_block]; exact hn645_1) | exact hn645_1) (.int .i64 ((rd_T71 l1_0 x9_1).f1.f0))).trans hx645_0; replace hx645_0 := (cell_far (p := ⟨gb640, 2, none⟩) (by first | (rw [add_block]; exact hn645_2) | (show (Addr.add _ _).block ≠ _; rw [add_block]; exact hn645_2) | exact hn645_2) (.int .i64 ((rd_T71 l1_0 x9_1).f1.f1))).trans hx645_0; replace hx645_0 := (cell_far (p := ⟨gb640, 3, none⟩) (by first | (rw [add_block]; exact hn645_3) | (show (Addr.add _ _).block ≠ _; rw [add_block]; exact hn645_3) | exact hn645_3) (.int .i64 ((rd_T71 l1_0 x9_1).f2))).trans hx645_0; replace hx645_0 := (cell_far (p := ⟨gb640, 4, none⟩) (by first | (rw [add_block]; exact hn645_4) | (show (Addr.add _ _).block ≠ _; rw [add_block]; exact hn645_4) | exact hn645_4) (.int .i64 ((rd_T71 l1_0 x9_1).f3))).trans hx645_0; clear hn645_0; clear hn645_1; clear hn645_2; clear hn645_3; clear hn645_4; replace p645 := eq_true p645; replace q645 := eq_true q645; have p646 : 0 ≤ (((rd_T71 l1_0 x9_1).f3) : Int) := od_; have q646 : ((rd_T71 l1_0 x9_1).f3) < (x8_1.length : Int) := od_; obtain ⟨ad646, e646, hx646_0⟩ := Kd.at_bool (Kd.R_reads' HO_8.out).2.2 ((rd_T71 l1_0 x9_1).f3) p646 q646; (try rw [← Nbq28.out] at hx646_0); obtain rfl : ad645 = ad646 := (by injection e646); have hn646_0 : ad645.block ≠ gb640 := Kd.own_blk (Kd.R_ne HO_8.out BK640.out (by decide)); have hn646_1 : ad645.block ≠ gb640 := Kd.own_blk (Kd.R_ne HO_8.out BK640.out (by decide)); have hn646_2 : ad645.block ≠ gb640 := Kd.own_blk (Kd.R_ne HO_8.out BK640.out (by decide)); have hn646_3 : ad645.block ≠ gb640 := Kd.own_blk (Kd.R_ne HO_8.out BK640.out (by decide)); have hn646_4 : ad645.block ≠ gb640 := Kd.own_blk (Kd.R_ne HO_8.out BK640.out (by decide)); replace hx646_0 := (cell_far (p := ⟨gb640, 0, none⟩) (by first | (rw [add_block]; exact hn646_0) | (show (Addr.add _ _).block ≠ _; rw [add_block]; exact hn646_0) | exact hn646_0) (.int .i64 ((rd_T71 l1_0 x9_1).f0))).trans hx646_0; replace hx646_0 := (cell_far (p := ⟨gb640, 1, none⟩) (by first | (rw [add_block]; exact hn646_1) | (show (Addr.add _ _).block ≠ _; rw [add_block]; exact hn646_1) | exact hn646_1) (.int .i64 ((rd_T71 l1_0 x9_1).f1.f0))).trans hx646_0; replace hx646_0 := (cell_far (p := ⟨gb640, 2, none⟩) (by first | (rw [add_block]; exact hn646_2) | (show (Addr.add _ _).block ≠ _; rw [add_block]; exact hn646_2) | exact hn646_2) (.int .i64 ((rd_T71 l1_0 x9_1).f1.f1))).trans hx646_0; replace hx646_0 := (cell_far (p := ⟨gb640, 3, none⟩) (by first | (rw [add_block]; exact hn646_3) | (show (Addr.add _ _).block ≠ _; rw [add_block]; exact hn646_3) | exact hn646_3) (.int .i64 ((rd_T71 l1_0 x9_1).f2))).trans hx646_0; replace hx646_0 := (cell_far (p := ⟨gb640, 4, none⟩) (by first | (rw [add_block]; exact hn646_4) | (show (Addr.add _ _).block ≠ _; rw [add_block]; exact hn646_4) | exact hn646_4) (.int .i64 ((rd_T71 l1_0 x9_1).f3))).trans hx646_0; clear hn646_0; clear hn646_1; clear hn646_2; clear hn646_3; clear hn646_4; replace p646 := eq_true p646; replace q646 := eq_true q646) | ((with_reducible refine gate_builtin (b := .append) (xs := #[.tmp 74, .tmp 76]) rfl ?_); at_builtin; refine Kd.R_append Kd.bool (w0 := w) w.heap.size rfl (.tmp 74) (.tmp 76) 103 4 (.bool false) 1 rfl Try.underlying103 info4 rfl (by decide) (by omega) (.slice (some ad645) x8_1.length co37) x8_1 (rdOf false x8_1 ((rd_T71 l1_0 x9_1).f3)) [.bool (rdOf false x8_1 ((rd_T71 l1_0 x9_1).f3))] (fun _ => True) (fun _ => False) rfl (by first | (go_simp; done) | (go_simp; rfl)) ?aP (fun _ hk => hk.elim) ?aF ?aO ?aB ?aS ?aL ?_; (case aP => exact rfl); (case aB => exact bl_); (case aF => exact (fun _ _ => trivial)); (case aO => exact (by (with_reducible repeat (first | apply Kd.R_alloc | apply Kd.R_drewN | apply Kd.R_drew)); exact Kd.R_mono (Kd.R_far (p := ⟨gb640, 4, none⟩) (Kd.R_far (p := ⟨gb640, 3, none⟩) (Kd.R_far (p := ⟨gb640, 2, none⟩) (Kd.R_far (p := ⟨gb640, 1, none⟩) (Kd.R_far (p := ⟨gb640, 0, none⟩) (Kd.R_types HO_8.out BK640.out (by decide)) (fun _ hk => hk.2) (.int .i64 ((rd_T71 l1_0 x9_1).f0))) (fun _ hk => hk.2) (.int .i64 ((rd_T71 l1_0 x9_1).f1.f0))) (fun _ hk => hk.2) (.int .i64 ((rd_T71 l1_0 x9_1).f1.f1))) (fun _ hk => hk.2) (.int .i64 ((rd_T71 l1_0 x9_1).f2))) (fun _ hk => hk.2) (.int .i64 ((rd_T71 l1_0 x9_1).f3))) (fun _ hk => trivial))); (case aS => exact bls_); (case aL => have := LMc32.out; omega); intro v648 w38 ho hb hg hat; rw [← Ny647.out] at ho; replace HO_7 := Aside0.mk (Kd.R_over' (by (with_reducible repeat (first | apply Kd.R_alloc | apply Kd.R_drewN | apply Kd.R_drew)); exact (Kd.R_mono (Kd.R_far (p := ⟨gb640, 4, none⟩) (Kd.R_far (p := ⟨gb640, 3, none⟩) (Kd.R_far (p := ⟨gb640, 2, none⟩) (Kd.R_far (p := ⟨gb640, 1, none⟩) (Kd.R_far (p := ⟨gb640, 0, none⟩) (Kd.R_types HO_7.out BK640.out (by decide)) (fun _ hk => hk.2) (.int .i64 ((rd_T71 l1_0 x9_1).f0))) (fun _ hk => hk.2) (.int .i64 ((rd_T71 l1_0 x9_1).f1.f0))) (fun _ hk => hk.2) (.int .i64 ((rd_T71 l1_0 x9_1).f1.f1))) (fun _ hk => hk.2) (.int .i64 ((rd_T71 l1_0 x9_1).f2))) (fun _ hk => hk.2) (.int .i64 ((rd_T71 l1_0 x9_1).f3))) (fun _ h_ => h_.1))) (Kd.R_typed (by (with_reducible repeat (first | apply Kd.R_alloc | apply Kd.R_drewN | apply Kd.R_drew)); exact (Kd.R_mono (Kd.R_far (p := ⟨gb640, 4, none⟩) (Kd.R_far (p := ⟨gb640, 3, none⟩) (Kd.R_far (p := ⟨gb640, 2, none⟩) (Kd.R_far (p := ⟨gb640, 1, none⟩) (Kd.R_far (p := ⟨gb640, 0, none⟩) (Kd.R_types HO_8.out BK640.out (by decide)) (fun _ hk => hk.2) (.int .i64 ((rd_T71 l1_0 x9_1).f0))) (fun _ hk => hk.2) (.int .i64 ((rd_T71 l1_0 x9_1).f1.f0))) (fun _ hk => hk.2) (.int .i64 ((rd_T71 l1_0 x9_1).f1.f1))) (fun _ hk => hk.2) (.int .i64 ((rd_T71 l1_0 x9_1).f2))) (fun _ hk => hk.2) (.int .i64 ((rd_T71 l1_0 x9_1).f3))) (fun _ h_ => h_.1)))) (by decide) hg); replace BK630 := Aside0.mk (blk_grown (g := gb630) (o := .cells #[.slice (some ad639) l1_0.length c1_0] 68 (0, 0)) (bk_ BK630) hg (Kd.R_ne HO_8.out BK630.out (by decide))); replace BK640 := Aside0.mk (blk_grown (g := gb640) (o := .cells #[.int .i64 ((rd_T71 l1_0 x9_1).f0), .int .i64 ((rd_T71 l1_0 x9_1).f1.f0), .int .i64 ((rd_T71 l1_0 x9_1).f1.f1), .int .i64 ((rd_T71 l1_0 x9_1).f2), .int .i64 ((rd_T71 l1_0 x9_1).f3)] 71 (0, 0)) (bk_ BK640) hg (Kd.R_ne HO_8.out BK640.out (by decide))); replace HB := Aside0.mk (hb); have HO649 := Aside0.mk (ho); clear HO_8; clear ho hb hg hat))
        go_roundg k1
        case measure => have := HK1.out; omega
        case rel => exact ⟨(y647), (wrap64 (x9_1 + 1)), rf_, H', ⟨by have := HK1.out; omega⟩, ⟨by (with_reducible repeat (first | apply Kd.R_alloc | apply Kd.R_drewN | apply Kd.R_drew)); exact HO_7.out⟩, ⟨by (with_reducible repeat (first | apply Kd.R_alloc | apply Kd.R_drewN | apply Kd.R_drew)); exact HO649.out⟩, ⟨bk_ BK630⟩, ⟨bl_⟩⟩
       ·replace c29 := Bool.eq_false_iff.mpr c29
        subst c29
        replace H := ite_f_ H
        obtain ⟨c39, H⟩ := ifn_ H
        have LMc39 := Aside0.mk c39
        clear c39
        obtain ⟨y650, hy650⟩ : ∃ y_ : List Bool, y_ = (x8_1 ++ [false]) := ⟨_, rfl⟩
        replace H : (spec_Decides.l0 k1 a2 t632 y650 (wrap64 (x9_1 + 1)) l1_0) = some r := by first | (rw [hy650]; with_reducible exact H) | (have H2_ := (Option.bind_some _ _).symm.trans H; rw [hy650]; with_reducible exact H2_) | (have H2_ := (Option.bind_some _ _).symm.trans H; with_reducible exact H2_) | with_reducible exact H | (rw [hy650]; exact H) | exact H
        have Ny650 := Aside0.mk hy650
        clear hy650
        have H' := Aside0.mk H
        clear H
        have hcz40 := blk_cell BK630.out
        have hfz40 := blk_frozen BK630.out
        have p639 : 0 ≤ (x9_1 : Int) := od_
        have q639 : x9_1 < (l1_0.length : Int) := od_
        obtain ⟨ad639, e639, hx639_0, hx639_1, hx639_2, hx639_3, hx639_4⟩ := at_T71 (Kd.C_below HR1_0.out HB.out) x9_1 p639 q639
        cases e639
        replace p639 := eq_true p639
        replace q639 := eq_true q639
        go_wp2_with (first | ((with_reducible refine gate_dst (N := 10) rfl ?_); refine box_event ?hg (N := 10) ?hd (cs := #[.int .i64 0, .int .i64 0, .int .i64 0, .int .i64 0, .int .i64 0]) (t := 71) ?hr ?_; (case hd => rfl); (case hg => rfl); (case hr => first | (go_simp; done) | (go_simp; rfl)); intro gb640 hg w41 hbox hb; replace HO_7 := hob_ HO_7 hb; replace HO_8 := hob_ HO_8 hb; have BK640 := Aside0.mk (hbox); have GW640 := gs_ hg; have GE640 := gs_ hg; replace HB := hbs_ hb; have NB630_640 := nl_ hg BK630; have NB640_630 := nr_ hg BK630; replace BK630 := bkb_ BK630 hb; clear hb hbox hg; have hnb42 := NB640_630.out; have hnc42 := NB630_640.out; have hcz43 := blk_cell BK640.out; have hfz43 := blk_frozen BK640.out; obtain ⟨Ao44, co44, eo44⟩ := Kd.R_slice HO_8.out; subst eo44; have p645 : 0 ≤ (((rd_T71 l1_0 x9_1).f2) : Int) := od_; have q645 : ((rd_T71 l1_0 x9_1).f2) < (x8_1.length : Int) := od_; obtain ⟨ad645, e645, hx645_0⟩ := Kd.at_bool (Kd.R_reads' HO_8.out).2.2 ((rd_T71 l1_0 x9_1).f2) p645 q645; (try rw [← Nbq28.out] at hx645_0); cases e645; have hn645_0 : ad645.block ≠ gb640 := Kd.own_blk (Kd.R_ne HO_8.out BK640.out (by decide)); have hn645_1 : ad645.block ≠ gb640 := Kd.own_blk (Kd.R_ne HO_8.out BK640.out (by decide)); have hn645_2 : ad645.block ≠ gb640 := Kd.own_blk (Kd.R_ne HO_8.out BK640.out (by decide)); have hn645_3 : ad645.block ≠ gb640 := Kd.own_blk (Kd.R_ne HO_8.out BK640.out (by decide)); have hn645_4 : ad645.block ≠ gb640 := Kd.own_blk (Kd.R_ne HO_8.out BK640.out (by decide)); replace hx645_0 := (cell_far (p := ⟨gb640, 0, none⟩) (by first | (rw [add_block]; exact hn645_0) | (show (Addr.add _ _).block ≠ _; rw [add_block]; exact hn645_0) | exact hn645_0) (.int .i64 ((rd_T71 l1_0 x9_1).f0))).trans hx645_0; replace hx645_0 := (cell_far (p := ⟨gb640, 1, none⟩) (by first | (rw [add_block]; exact hn645_1) | (show (Addr.add _ _).block ≠ _; rw [add_block]; exact hn645_1) | exact hn645_1) (.int .i64 ((rd_T71 l1_0 x9_1).f1.f0))).trans hx645_0; replace hx645_0 := (cell_far (p := ⟨gb640, 2, none⟩) (by first | (rw [add_block]; exact hn645_2) | (show (Addr.add _ _).block ≠ _; rw [add_block]; exact hn645_2) | exact hn645_2) (.int .i64 ((rd_T71 l1_0 x9_1).f1.f1))).trans hx645_0; replace hx645_0 := (cell_far (p := ⟨gb640, 3, none⟩) (by first | (rw [add_block]; exact hn645_3) | (show (Addr.add _ _).block ≠ _; rw [add_block]; exact hn645_3) | exact hn645_3) (.int .i64 ((rd_T71 l1_0 x9_1).f2))).trans hx645_0; replace hx645_0 := (cell_far (p := ⟨gb640, 4, none⟩) (by first | (rw [add_block]; exact hn645_4) | (show (Addr.add _ _).block ≠ _; rw [add_block]; exact hn645_4) | exact hn645_4) (.int .i64 ((rd_T71 l1_0 x9_1).f3))).trans hx645_0; clear hn645_0; clear hn645_1; clear hn645_2; clear hn645_3; clear hn645_4; replace p645 := eq_true p645; replace q645 := eq_true q645) | ((with_reducible refine gate_builtin (b := .append) (xs := #[.tmp 74, .tmp 76]) rfl ?_); at_builtin; refine Kd.R_append Kd.bool (w0 := w) w.heap.size rfl (.tmp 74) (.tmp 76) 103 4 (.bool false) 1 rfl Try.underlying103 info4 rfl (by decide) (by omega) (.slice (some ad645) x8_1.length co44) x8_1 false [.bool false] (fun _ => True) (fun _ => False) rfl (by first | (go_simp; done) | (go_simp; rfl)) ?aP (fun _ hk => hk.elim) ?aF ?aO ?aB ?aS ?aL ?_; (case aP => exact rfl); (case aB => exact bl_); (case aF => exact (fun _ _ => trivial)); (case aO => exact (by (with_reducible repeat (first | apply Kd.R_alloc | apply Kd.R_drewN | apply Kd.R_drew)); exact Kd.R_mono (Kd.R_far (p := ⟨gb640, 4, none⟩) (Kd.R_far (p := ⟨gb640, 3, none⟩) (Kd.R_far (p := ⟨gb640, 2, none⟩) (Kd.R_far (p := ⟨gb640, 1, none⟩) (Kd.R_far (p := ⟨gb640, 0, none⟩) (Kd.R_types HO_8.out BK640.out (by decide)) (fun _ hk => hk.2) (.int .i64 ((rd_T71 l1_0 x9_1).f0))) (fun _ hk => hk.2) (.int .i64 ((rd_T71 l1_0 x9_1).f1.f0))) (fun _ hk => hk.2) (.int .i64 ((rd_T71 l1_0 x9_1).f1.f1))) (fun _ hk => hk.2) (.int .i64 ((rd_T71 l1_0 x9_1).f2))) (fun _ hk => hk.2) (.int .i64 ((rd_T71 l1_0 x9_1).f3))) (fun _ hk => trivial))); (case aS => exact bls_); (case aL => have := LMc39.out; omega); intro v651 w45 ho hb hg hat; rw [← Ny650.out] at ho; replace HO_7 := Aside0.mk (Kd.R_over' (by (with_reducible repeat (first | apply Kd.R_alloc | apply Kd.R_drewN | apply Kd.R_drew)); exact (Kd.R_mono (Kd.R_far (p := ⟨gb640, 4, none⟩) (Kd.R_far (p := ⟨gb640, 3, none⟩) (Kd.R_far (p := ⟨gb640, 2, none⟩) (Kd.R_far (p := ⟨gb640, 1, none⟩) (Kd.R_far (p := ⟨gb640, 0, none⟩) (Kd.R_types HO_7.out BK640.out (by decide)) (fun _ hk => hk.2) (.int .i64 ((rd_T71 l1_0 x9_1).f0))) (fun _ hk => hk.2) (.int .i64 ((rd_T71 l1_0 x9_1).f1.f0))) (fun _ hk => hk.2) (.int .i64 ((rd_T71 l1_0 x9_1).f1.f1))) (fun _ hk => hk.2) (.int .i64 ((rd_T71 l1_0 x9_1).f2))) (fun _ hk => hk.2) (.int .i64 ((rd_T71 l1_0 x9_1).f3))) (fun _ h_ => h_.1))) (Kd.R_typed (by (with_reducible repeat (first | apply Kd.R_alloc | apply Kd.R_drewN | apply Kd.R_drew)); exact (Kd.R_mono (Kd.R_far (p := ⟨gb640, 4, none⟩) (Kd.R_far (p := ⟨gb640, 3, none⟩) (Kd.R_far (p := ⟨gb640, 2, none⟩) (Kd.R_far (p := ⟨gb640, 1, none⟩) (Kd.R_far (p := ⟨gb640, 0, none⟩) (Kd.R_types HO_8.out BK640.out (by decide)) (fun _ hk => hk.2) (.int .i64 ((rd_T71 l1_0 x9_1).f0))) (fun _ hk => hk.2) (.int .i64 ((rd_T71 l1_0 x9_1).f1.f0))) (fun _ hk => hk.2) (.int .i64 ((rd_T71 l1_0 x9_1).f1.f1))) (fun _ hk => hk.2) (.int .i64 ((rd_T71 l1_0 x9_1).f2))) (fun _ hk => hk.2) (.int .i64 ((rd_T71 l1_0 x9_1).f3))) (fun _ h_ => h_.1)))) (by decide) hg); replace BK630 := Aside0.mk (blk_grown (g := gb630) (o := .cells #[.slice (some ad639) l1_0.length c1_0] 68 (0, 0)) (bk_ BK630) hg (Kd.R_ne HO_8.out BK630.out (by decide))); replace BK640 := Aside0.mk (blk_grown (g := gb640) (o := .cells #[.int .i64 ((rd_T71 l1_0 x9_1).f0), .int .i64 ((rd_T71 l1_0 x9_1).f1.f0), .int .i64 ((rd_T71 l1_0 x9_1).f1.f1), .int .i64 ((rd_T71 l1_0 x9_1).f2), .int .i64 ((rd_T71 l1_0 x9_1).f3)] 71 (0, 0)) (bk_ BK640) hg (Kd.R_ne HO_8.out BK640.out (by decide))); replace HB := Aside0.mk (hb); have HO652 := Aside0.mk (ho); clear HO_8; clear ho hb hg hat))
        go_roundg k1
        case measure => have := HK1.out; omega
        case rel => exact ⟨(y650), (wrap64 (x9_1 + 1)), rf_, H', ⟨by have := HK1.out; omega⟩, ⟨by (with_reducible repeat (first | apply Kd.R_alloc | apply Kd.R_drewN | apply Kd.R_drew)); exact HO_7.out⟩, ⟨by (with_reducible repeat (first | apply Kd.R_alloc | apply Kd.R_drewN | apply Kd.R_drew)); exact HO652.out⟩, ⟨bk_ BK630⟩, ⟨bl_⟩⟩
      ·rw [if_neg c25] at H
       have c25b0 : (((rd_T71 l1_0 x9_1).f0) == 2) = false := beq_eq_false_iff_ne.mpr c25
       have c25b1 : (((rd_T71 l1_0 x9_1).f0) != 2) = true := bne_iff_ne.mpr c25
       by_cases c46 : ((rd_T71 l1_0 x9_1).f0) = 3
       ·rw [if_pos c46] at H
        have c46b0 : (((rd_T71 l1_0 x9_1).f0) == 3) = true := beq_iff_eq.mpr c46
        have c46b1 : (((rd_T71 l1_0 x9_1).f0) != 3) = false := bne_eq_false_iff_eq.mpr c46
        clear c46
        obtain ⟨c47b0, H⟩ := ifd_ H
        obtain ⟨c48b0, H⟩ := ifd_ H
        obtain ⟨bq49, hbq49⟩ : ∃ b_ : Bool, b_ = (rdOf false x8_1 ((rd_T71 l1_0 x9_1).f2)) := ⟨_, rfl⟩
        replace H : (if bq49 = true then (if x8_1.length < 140737488355328 then (spec_Decides.l0 k1 a2 t632 (x8_1 ++ [true]) (wrap64 (x9_1 + 1)) l1_0) else (none)) else (if 0 ≤ ((rd_T71 l1_0 x9_1).f3) then (if ((rd_T71 l1_0 x9_1).f3) < (x8_1.length : Int) then (if x8_1.length < 140737488355328 then (spec_Decides.l0 k1 a2 t632 (x8_1 ++ [rdOf false x8_1 ((rd_T71 l1_0 x9_1).f3)]) (wrap64 (x9_1 + 1)) l1_0) else (none)) else (none)) else (none))) = some r := by rw [← hbq49] at H; exact H
        have Nbq49 := Aside0.mk hbq49
        clear hbq49
        by_cases c50 : bq49 = true
        ·subst c50
         replace H := ite_t_ H
         obtain ⟨c51, H⟩ := ifn_ H
         have LMc51 := Aside0.mk c51
         clear c51
         obtain ⟨y654, hy654⟩ : ∃ y_ : List Bool, y_ = (x8_1 ++ [true]) := ⟨_, rfl⟩
         replace H : (spec_Decides.l0 k1 a2 t632 y654 (wrap64 (x9_1 + 1)) l1_0) = some r := by first | (rw [hy654]; with_reducible exact H) | (have H2_ := (Option.bind_some _ _).symm.trans H; rw [hy654]; with_reducible exact H2_) | (have H2_ := (Option.bind_some _ _).symm.trans H; with_reducible exact H2_) | with_reducible exact H | (rw [hy654]; exact H) | exact H
         have Ny654 := Aside0.mk hy654
         clear hy654
         have H' := Aside0.mk H
         clear H
         have hcz52 := blk_cell BK630.out
         have hfz52 := blk_frozen BK630.out
         have p639 : 0 ≤ (x9_1 : Int) := od_
         have q639 : x9_1 < (l1_0.length : Int) := od_
         obtain ⟨ad639, e639, hx639_0, hx639_1, hx639_2, hx639_3, hx639_4⟩ := at_T71 (Kd.C_below HR1_0.out HB.out) x9_1 p639 q639
         cases e639
         replace p639 := eq_true p639
         replace q639 := eq_true q639
         go_wp2_with (first | ((with_reducible refine gate_dst (N := 10) rfl ?_); refine box_event ?hg (N := 10) ?hd (cs := #[.int .i64 0, .int .i64 0, .int .i64 0, .int .i64 0, .int .i64 0]) (t := 71) ?hr ?_; (case hd => rfl); (case hg => rfl); (case hr => first | (go_simp; done) | (go_simp; rfl)); intro gb640 hg w53 hbox hb; replace HO_7 := hob_ HO_7 hb; replace HO_8 := hob_ HO_8 hb; have BK640 := Aside0.mk (hbox); have GW640 := gs_ hg; have GE640 := gs_ hg; replace HB := hbs_ hb; have NB630_640 := nl_ hg BK630; have NB640_630 := nr_ hg BK630; replace BK630 := bkb_ BK630 hb; clear hb hbox hg; have hnb54 := NB640_630.out; have hnc54 := NB630_640.out; have hcz55 := blk_cell BK640.out; have hfz55 := blk_frozen BK640.out; obtain ⟨Ao56, co56, eo56⟩ := Kd.R_slice HO_8.out; subst eo56; have p653 : 0 ≤ (((rd_T71 l1_0 x9_1).f2) : Int) := od_; have q653 : ((rd_T71 l1_0 x9_1).f2) < (x8_1.length : Int) := od_; obtain ⟨ad653, e653, hx653_0⟩ := Kd.at_bool (Kd.R_reads' HO_8.out).2.2 ((rd_T71 l1_0 x9_1).f2) p653 q653; (try rw [← Nbq49.out] at hx653_0); cases e653; have hn653_0 : ad653.block ≠ gb640 := Kd.own_blk (Kd.R_ne HO_8.out BK640.out (by decide)); have hn653_1 : ad653.block ≠ gb640 := Kd.own_blk (Kd.R_ne HO_8.out BK640.out (by decide)); have hn653_2 : ad653.block ≠ gb640 := Kd.own_blk (Kd.R_ne HO_8.out BK640.out (by decide)); have hn653_3 : ad653.block ≠ gb640 := Kd.own_blk (Kd.R_ne HO_8.out BK640.out (by decide)); have hn653_4 : ad653.block ≠ gb640 := Kd.own_blk (Kd.R_ne HO_8.out BK640.out (by decide)); replace hx653_0 := (cell_far (p := ⟨gb640, 0, none⟩) (by first | (rw [add_block]; exact hn653_0) | (show (Addr.add _ _).block ≠ _; rw [add_block]; exact hn653_0) | exact hn653_0) (.int .i64 ((rd_T71 l1_0 x9_1).f0))).trans hx653_0; replace hx653_0 := (cell_far (p := ⟨gb640, 1, none⟩) (by first | (rw [add_block]; exact hn653_1) | (show (Addr.add _ _).block ≠ _; rw [add_block]; exact hn653_1) | exact hn653_1) (.int .i64 ((rd_T71 l1_0 x9_1).f1.f0))).trans hx653_0; replace hx653_0 := (cell_far (p := ⟨gb640, 2, none⟩) (by first | (rw [add_block]; exact hn653_2) | (show (Addr.add _ _).block ≠ _; rw [add_block]; exact hn653_2) | exact hn653_2) (.int .i64 ((rd_T71 l1_0 x9_1).f1.f1))).trans hx653_0; replace hx653_0 := (cell_far (p := ⟨gb640, 3, none⟩) (by first | (rw [add_block]; exact hn653_3) | (show (Addr.add _ _).block ≠ _; rw [add_block]; exact hn653_3) | exact hn653_3) (.int .i64 ((rd_T71 l1_0 x9_1).f2))).trans hx653_0; replace hx653_0 := (cell_far (p := ⟨gb640, 4, none⟩) (by first | (rw [add_block]; exact hn653_4) | (show (Addr.add _ _).block ≠ _; rw [add_block]; exact hn653_4) | exact hn653_4) (.int .i64 ((rd_T71 l1_0 x9_1).f3))).trans hx653_0; clear hn653_0; clear hn653_1; clear hn653_2; clear hn653_3; clear hn653_4; replace p653 := eq_true p653; replace q653 := eq_true q653) | ((with_reducible refine gate_builtin (b := .append) (xs := #[.tmp 74, .tmp 76]) rfl ?_); at_builtin; refine Kd.R_append Kd.bool (w0 := w) w.heap.size rfl (.tmp 74) (.tmp 76) 103 4 (.bool false) 1 rfl Try.underlying103 info4 rfl (by decide) (by omega) (.slice (some ad653) x8_1.length co56) x8_1 true [.bool true] (fun _ => True) (fun _ => False) rfl (by first | (go_simp; done) | (go_simp; rfl)) ?aP (fun _ hk => hk.elim) ?aF ?aO ?aB ?aS ?aL ?_; (case aP => exact rfl); (case aB => exact bl_); (case aF => exact (fun _ _ => trivial)); (case aO => exact (by (with_reducible repeat (first | apply Kd.R_alloc | apply Kd.R_drewN | apply Kd.R_drew)); exact Kd.R_mono (Kd.R_far (p := ⟨gb640, 4, none⟩) (Kd.R_far (p := ⟨gb640, 3, none⟩) (Kd.R_far (p := ⟨gb640, 2, none⟩) (Kd.R_far (p := ⟨gb640, 1, none⟩) (Kd.R_far (p := ⟨gb640, 0, none⟩) (Kd.R_types HO_8.out BK640.out (by decide)) (fun _ hk => hk.2) (.int .i64 ((rd_T71 l1_0 x9_1).f0))) (fun _ hk => hk.2) (.int .i64 ((rd_T71 l1_0 x9_1).f1.f0))) (fun _ hk => hk.2) (.int .i64 ((rd_T71 l1_0 x9_1).f1.f1))) (fun _ hk => hk.2) (.int .i64 ((rd_T71 l1_0 x9_1).f2))) (fun _ hk => hk.2) (.int .i64 ((rd_T71 l1_0 x9_1).f3))) (fun _ hk => trivial))); (case aS => exact bls_); (case aL => have := LMc51.out; omega); intro v655 w57 ho hb hg hat; rw [← Ny654.out] at ho; replace HO_7 := Aside0.mk (Kd.R_over' (by (with_reducible repeat (first | apply Kd.R_alloc | apply Kd.R_drewN | apply Kd.R_drew)); exact (Kd.R_mono (Kd.R_far (p := ⟨gb640, 4, none⟩) (Kd.R_far (p := ⟨gb640, 3, none⟩) (Kd.R_far (p := ⟨gb640, 2, none⟩) (Kd.R_far (p := ⟨gb640, 1, none⟩) (Kd.R_far (p := ⟨gb640, 0, none⟩) (Kd.R_types HO_7.out BK640.out (by decide)) (fun _ hk => hk.2) (.int .i64 ((rd_T71 l1_0 x9_1).f0))) (fun _ hk => hk.2) (.int .i64 ((rd_T71 l1_0 x9_1).f1.f0))) (fun _ hk => hk.2) (.int .i64 ((rd_T71 l1_0 x9_1).f1.f1))) (fun _ hk => hk.2) (.int .i64 ((rd_T71 l1_0 x9_1).f2))) (fun _ hk => hk.2) (.int .i64 ((rd_T71 l1_0 x9_1).f3))) (fun _ h_ => h_.1))) (Kd.R_typed (by (with_reducible repeat (first | apply Kd.R_alloc | apply Kd.R_drewN | apply Kd.R_drew)); exact (Kd.R_mono (Kd.R_far (p := ⟨gb640, 4, none⟩) (Kd.R_far (p := ⟨gb640, 3, none⟩) (Kd.R_far (p := ⟨gb640, 2, none⟩) (Kd.R_far (p := ⟨gb640, 1, none⟩) (Kd.R_far (p := ⟨gb640, 0, none⟩) (Kd.R_types HO_8.out BK640.out (by decide)) (fun _ hk => hk.2) (.int .i64 ((rd_T71 l1_0 x9_1).f0))) (fun _ hk => hk.2) (.int .i64 ((rd_T71 l1_0 x9_1).f1.f0))) (fun _ hk => hk.2) (.int .i64 ((rd_T71 l1_0 x9_1).f1.f1))) (fun _ hk => hk.2) (.int .i64 ((rd_T71 l1_0 x9_1).f2))) (fun _ hk => hk.2) (.int .i64 ((rd_T71 l1_0 x9_1).f3))) (fun _ h_ => h_.1)))) (by decide) hg); replace BK630 := Aside0.mk (blk_grown (g := gb630) (o := .cells #[.slice (some ad639) l1_0.length c1_0] 68 (0, 0)) (bk_ BK630) hg (Kd.R_ne HO_8.out BK630.out (by decide))); replace BK640 := Aside0.mk (blk_grown (g := gb640) (o := .cells #[.int .i64 ((rd_T71 l1_0 x9_1).f0), .int .i64 ((rd_T71 l1_0 x9_1).f1.f0), .int .i64 ((rd_T71 l1_0 x9_1).f1.f1), .int .i64 ((rd_T71 l1_0 x9_1).f2), .int .i64 ((rd_T71 l1_0 x9_1).f3)] 71 (0, 0)) (bk_ BK640) hg (Kd.R_ne HO_8.out BK640.out (by decide))); replace HB := Aside0.mk (hb); have HO656 := Aside0.mk (ho); clear HO_8; clear ho hb hg hat))
         go_roundg k1
         case measure => have := HK1.out; omega
         case rel => exact ⟨(y654), (wrap64 (x9_1 + 1)), rf_, H', ⟨by have := HK1.out; omega⟩, ⟨by (with_reducible repeat (first | apply Kd.R_alloc | apply Kd.R_drewN | apply Kd.R_drew)); exact HO_7.out⟩, ⟨by (with_reducible repeat (first | apply Kd.R_alloc | apply Kd.R_drewN | apply Kd.R_drew)); exact HO656.out⟩, ⟨bk_ BK630⟩, ⟨bl_⟩⟩
        ·replace c50 := Bool.eq_false_iff.mpr c50
         subst c50
         replace H := ite_f_ H
         obtain ⟨c58b0, H⟩ := ifd_ H
         obtain ⟨c59b0, H⟩ := ifd_ H
         obtain ⟨c60, H⟩ := ifn_ H
         have LMc60 := Aside0.mk c60
         clear c60
         obtain ⟨y658, hy658⟩ : ∃ y_ : List Bool, y_ = (x8_1 ++ [rdOf false x8_1 ((rd_T71 l1_0 x9_1).f3)]) := ⟨_, rfl⟩
         replace H : (spec_Decides.l0 k1 a2 t632 y658 (wrap64 (x9_1 + 1)) l1_0) = some r := by first | (rw [hy658]; with_reducible exact H) | (have H2_ := (Option.bind_some _ _).symm.trans H; rw [hy658]; with_reducible exact H2_) | (have H2_ := (Option.bind_some _ _).symm.trans H; with_reducible exact H2_) | with_reducible exact H | (rw [hy658]; exact H) | exact H
         have Ny658 := Aside0.mk hy658
         clear hy658
         have H' := Aside0.mk H
         clear H
         have hcz61 := blk_cell BK630.out
         have hfz61 := blk_frozen BK630.out
         have p639 : 0 ≤ (x9_1 : Int) := od_
         have q639 : x9_1 < (l1_0.length : Int) := od_
         obtain ⟨ad639, e639, hx639_0, hx639_1, hx639_2, hx639_3, hx639_4⟩ := at_T71 (Kd.C_below HR1_0.out HB.out) x9_1 p639 q639
         cases e639
         replace p639 := eq_true p639
         replace q639 := eq_true q639
         go_wp2_with (first | ((with_reducible refine gate_dst (N := 10) rfl ?_); refine box_event ?hg (N := 10) ?hd (cs := #[.int .i64 0, .int .i64 0, .int .i64 0, .int .i64 0, .int .i64 0]) (t := 71) ?hr ?_; (case hd => rfl); (case hg => rfl); (case hr => first | (go_simp; done) | (go_simp; rfl)); intro gb640 hg w62 hbox hb; replace HO_7 := hob_ HO_7 hb; replace HO_8 := hob_ HO_8 hb; have BK640 := Aside0.mk (hbox); have GW640 := gs_ hg; have GE640 := gs_ hg; replace HB := hbs_ hb; have NB630_640 := nl_ hg BK630; have NB640_630 := nr_ hg BK630; replace BK630 := bkb_ BK630 hb; clear hb hbox hg; have hnb63 := NB640_630.out; have hnc63 := NB630_640.out; have hcz64 := blk_cell BK640.out; have hfz64 := blk_frozen BK640.out; obtain ⟨Ao65, co65, eo65⟩ := Kd.R_slice HO_8.out; subst eo65; have p653 : 0 ≤ (((rd_T71 l1_0 x9_1).f2) : Int) := od_; have q653 : ((rd_T71 l1_0 x9_1).f2) < (x8_1.length : Int) := od_; obtain ⟨ad653, e653, hx653_0⟩ := Kd.at_bool (Kd.R_reads' HO_8.out).2.2 ((rd_T71 l1_0 x9_1).f2) p653 q653; (try rw [← Nbq49.out] at hx653_0); cases e653; have hn653_0 : ad653.block ≠ gb640 := Kd.own_blk (Kd.R_ne HO_8.out BK640.out (by decide)); have hn653_1 : ad653.block ≠ gb640 := Kd.own_blk (Kd.R_ne HO_8.out BK640.out (by decide)); have hn653_2 : ad653.block ≠ gb640 := Kd.own_blk (Kd.R_ne HO_8.out BK640.out (by decide)); have hn653_3 : ad653.block ≠ gb640 := Kd.own_blk (Kd.R_ne HO_8.out BK640.out (by decide)); have hn653_4 : ad653.block ≠ gb640 := Kd.own_blk (Kd.R_ne HO_8.out BK640.out (by decide)); replace hx653_0 := (cell_far (p := ⟨gb640, 0, none⟩) (by first | (rw [add_block]; exact hn653_0) | (show (Addr.add _ _).block ≠ _; rw [add_block]; exact hn653_0) | exact hn653_0) (.int .i64 ((rd_T71 l1_0 x9_1).f0))).trans hx653_0; replace hx653_0 := (cell_far (p := ⟨gb640, 1, none⟩) (by first | (rw [add_block]; exact hn653_1) | (show (Addr.add _ _).block ≠ _; rw [add_block]; exact hn653_1) | exact hn653_1) (.int .i64 ((rd_T71 l1_0 x9_1).f1.f0))).trans hx653_0; replace hx653_0 := (cell_far (p := ⟨gb640, 2, none⟩) (by first | (rw [add_block]; exact hn653_2) | (show (Addr.add _ _).block ≠ _; rw [add_block]; exact hn653_2) | exact hn653_2) (.int .i64 ((rd_T71 l1_0 x9_1).f1.f1))).trans hx653_0; replace hx653_0 := (cell_far (p := ⟨gb640, 3, none⟩) (by first | (rw [add_block]; exact hn653_3) | (show (Addr.add _ _).block ≠ _; rw [add_block]; exact hn653_3) | exact hn653_3) (.int .i64 ((rd_T71 l1_0 x9_1).f2))).trans hx653_0; replace hx653_0 := (cell_far (p := ⟨gb640, 4, none⟩) (by first | (rw [add_block]; exact hn653_4) | (show (Addr.add _ _).block ≠ _; rw [add_block]; exact hn653_4) | exact hn653_4) (.int .i64 ((rd_T71 l1_0 x9_1).f3))).trans hx653_0; clear hn653_0; clear hn653_1; clear hn653_2; clear hn653_3; clear hn653_4; replace p653 := eq_true p653; replace q653 := eq_true q653; have p657 : 0 ≤ (((rd_T71 l1_0 x9_1).f3) : Int) := od_; have q657 : ((rd_T71 l1_0 x9_1).f3) < (x8_1.length : Int) := od_; obtain ⟨ad657, e657, hx657_0⟩ := Kd.at_bool (Kd.R_reads' HO_8.out).2.2 ((rd_T71 l1_0 x9_1).f3) p657 q657; (try rw [← Nbq49.out] at hx657_0); obtain rfl : ad653 = ad657 := (by injection e657); have hn657_0 : ad653.block ≠ gb640 := Kd.own_blk (Kd.R_ne HO_8.out BK640.out (by decide)); have hn657_1 : ad653.block ≠ gb640 := Kd.own_blk (Kd.R_ne HO_8.out BK640.out (by decide)); have hn657_2 : ad653.block ≠ gb640 := Kd.own_blk (Kd.R_ne HO_8.out BK640.out (by decide)); have hn657_3 : ad653.block ≠ gb640 := Kd.own_blk (Kd.R_ne HO_8.out BK640.out (by decide)); have hn657_4 : ad653.block ≠ gb640 := Kd.own_blk (Kd.R_ne HO_8.out BK640.out (by decide)); replace hx657_0 := (cell_far (p := ⟨gb640, 0, none⟩) (by first | (rw [add_block]; exact hn657_0) | (show (Addr.add _ _).block ≠ _; rw [add_block]; exact hn657_0) | exact hn657_0) (.int .i64 ((rd_T71 l1_0 x9_1).f0))).trans hx657_0; replace hx657_0 := (cell_far (p := ⟨gb640, 1, none⟩) (by first | (rw [add_block]; exact hn657_1) | (show (Addr.add _ _).block ≠ _; rw [add_block]; exact hn657_1) | exact hn657_1) (.int .i64 ((rd_T71 l1_0 x9_1).f1.f0))).trans hx657_0; replace hx657_0 := (cell_far (p := ⟨gb640, 2, none⟩) (by first | (rw [add_block]; exact hn657_2) | (show (Addr.add _ _).block ≠ _; rw [add_block]; exact hn657_2) | exact hn657_2) (.int .i64 ((rd_T71 l1_0 x9_1).f1.f1))).trans hx657_0; replace hx657_0 := (cell_far (p := ⟨gb640, 3, none⟩) (by first | (rw [add_block]; exact hn657_3) | (show (Addr.add _ _).block ≠ _; rw [add_block]; exact hn657_3) | exact hn657_3) (.int .i64 ((rd_T71 l1_0 x9_1).f2))).trans hx657_0; replace hx657_0 := (cell_far (p := ⟨gb640, 4, none⟩) (by first | (rw [add_block]; exact hn657_4) | (show (Addr.add _ _).block ≠ _; rw [add_block]; exact hn657_4) | exact hn657_4) (.int .i64 ((rd_T71 l1_0 x9_1).f3))).trans hx657_0; clear hn657_0; clear hn657_1; clear hn657_2; clear hn657_3; clear hn657_4; replace p657 := eq_true p657; replace q657 := eq_true q657) | ((with_reducible refine gate_builtin (b := .append) (xs := #[.tmp 74, .tmp 76]) rfl ?_); at_builtin; refine Kd.R_append Kd.bool (w0 := w) w.heap.size rfl (.tmp 74) (.tmp 76) 103 4 (.bool false) 1 rfl Try.underlying103 info4 rfl (by decide) (by omega) (.slice (some ad653) x8_1.length co65) x8_1 (rdOf false x8_1 ((rd_T71 l1_0 x9_1).f3)) [.bool (rdOf false x8_1 ((rd_T71 l1_0 x9_1).f3))] (fun _ => True) (fun _ => False) rfl (by first | (go_simp; done) | (go_simp; rfl)) ?aP (fun _ hk => hk.elim) ?aF ?aO ?aB ?aS ?aL ?_; (case aP => exact rfl); (case aB => exact bl_); (case aF => exact (fun _ _ => trivial)); (case aO => exact (by (with_reducible repeat (first | apply Kd.R_alloc | apply Kd.R_drewN | apply Kd.R_drew)); exact Kd.R_mono (Kd.R_far (p := ⟨gb640, 4, none⟩) (Kd.R_far (p := ⟨gb640, 3, none⟩) (Kd.R_far (p := ⟨gb640, 2, none⟩) (Kd.R_far (p := ⟨gb640, 1, none⟩) (Kd.R_far (p := ⟨gb640, 0, none⟩) (Kd.R_types HO_8.out BK640.out (by decide)) (fun _ hk => hk.2) (.int .i64 ((rd_T71 l1_0 x9_1).f0))) (fun _ hk => hk.2) (.int .i64 ((rd_T71 l1_0 x9_1).f1.f0))) (fun _ hk => hk.2) (.int .i64 ((rd_T71 l1_0 x9_1).f1.f1))) (fun _ hk => hk.2) (.int .i64 ((rd_T71 l1_0 x9_1).f2))) (fun _ hk => hk.2) (.int .i64 ((rd_T71 l1_0 x9_1).f3))) (fun _ hk => trivial))); (case aS => exact bls_); (case aL => have := LMc60.out; omega); intro v659 w66 ho hb hg hat; rw [← Ny658.out] at ho; replace HO_7 := Aside0.mk (Kd.R_over' (by (with_reducible repeat (first | apply Kd.R_alloc | apply Kd.R_drewN | apply Kd.R_drew)); exact (Kd.R_mono (Kd.R_far (p := ⟨gb640, 4, none⟩) (Kd.R_far (p := ⟨gb640, 3, none⟩) (Kd.R_far (p := ⟨gb640, 2, none⟩) (Kd.R_far (p := ⟨gb640, 1, none⟩) (Kd.R_far (p := ⟨gb640, 0, none⟩) (Kd.R_types HO_7.out BK640.out (by decide)) (fun _ hk => hk.2) (.int .i64 ((rd_T71 l1_0 x9_1).f0))) (fun _ hk => hk.2) (.int .i64 ((rd_T71 l1_0 x9_1).f1.f0))) (fun _ hk => hk.2) (.int .i64 ((rd_T71 l1_0 x9_1).f1.f1))) (fun _ hk => hk.2) (.int .i64 ((rd_T71 l1_0 x9_1).f2))) (fun _ hk => hk.2) (.int .i64 ((rd_T71 l1_0 x9_1).f3))) (fun _ h_ => h_.1))) (Kd.R_typed (by (with_reducible repeat (first | apply Kd.R_alloc | apply Kd.R_drewN | apply Kd.R_drew)); exact (Kd.R_mono (Kd.R_far (p := ⟨gb640, 4, none⟩) (Kd.R_far (p := ⟨gb640, 3, none⟩) (Kd.R_far (p := ⟨gb640, 2, none⟩) (Kd.R_far (p := ⟨gb640, 1, none⟩) (Kd.R_far (p := ⟨gb640, 0, none⟩) (Kd.R_types HO_8.out BK640.out (by decide)) (fun _ hk => hk.2) (.int .i64 ((rd_T71 l1_0 x9_1).f0))) (fun _ hk => hk.2) (.int .i64 ((rd_T71 l1_0 x9_1).f1.f0))) (fun _ hk => hk.2) (.int .i64 ((rd_T71 l1_0 x9_1).f1.f1))) (fun _ hk => hk.2) (.int .i64 ((rd_T71 l1_0 x9_1).f2))) (fun _ hk => hk.2) (.int .i64 ((rd_T71 l1_0 x9_1).f3))) (fun _ h_ => h_.1)))) (by decide) hg); replace BK630 := Aside0.mk (blk_grown (g := gb630) (o := .cells #[.slice (some ad639) l1_0.length c1_0] 68 (0, 0)) (bk_ BK630) hg (Kd.R_ne HO_8.out BK630.out (by decide))); replace BK640 := Aside0.mk (blk_grown (g := gb640) (o := .cells #[.int .i64 ((rd_T71 l1_0 x9_1).f0), .int .i64 ((rd_T71 l1_0 x9_1).f1.f0), .int .i64 ((rd_T71 l1_0 x9_1).f1.f1), .int .i64 ((rd_T71 l1_0 x9_1).f2), .int .i64 ((rd_T71 l1_0 x9_1).f3)] 71 (0, 0)) (bk_ BK640) hg (Kd.R_ne HO_8.out BK640.out (by decide))); replace HB := Aside0.mk (hb); have HO660 := Aside0.mk (ho); clear HO_8; clear ho hb hg hat))
         go_roundg k1
         case measure => have := HK1.out; omega
         case rel => exact ⟨(y658), (wrap64 (x9_1 + 1)), rf_, H', ⟨by have := HK1.out; omega⟩, ⟨by (with_reducible repeat (first | apply Kd.R_alloc | apply Kd.R_drewN | apply Kd.R_drew)); exact HO_7.out⟩, ⟨by (with_reducible repeat (first | apply Kd.R_alloc | apply Kd.R_drewN | apply Kd.R_drew)); exact HO660.out⟩, ⟨bk_ BK630⟩, ⟨bl_⟩⟩
       ·rw [if_neg c46] at H
        have c46b0 : (((rd_T71 l1_0 x9_1).f0) == 3) = false := beq_eq_false_iff_ne.mpr c46
        have c46b1 : (((rd_T71 l1_0 x9_1).f0) != 3) = true := bne_iff_ne.mpr c46
        obtain ⟨c67b0, H⟩ := ifd_ H
        obtain ⟨c68b0, H⟩ := ifd_ H
        obtain ⟨c69, H⟩ := ifn_ H
        have LMc69 := Aside0.mk c69
        clear c69
        obtain ⟨y662, hy662⟩ : ∃ y_ : List Bool, y_ = (x8_1 ++ [!(rdOf false x8_1 ((rd_T71 l1_0 x9_1).f2))]) := ⟨_, rfl⟩
        replace H : (spec_Decides.l0 k1 a2 t632 y662 (wrap64 (x9_1 + 1)) l1_0) = some r := by first | (rw [hy662]; with_reducible exact H) | (have H2_ := (Option.bind_some _ _).symm.trans H; rw [hy662]; with_reducible exact H2_) | (have H2_ := (Option.bind_some _ _).symm.trans H; with_reducible exact H2_) | with_reducible exact H | (rw [hy662]; exact H) | exact H
        have Ny662 := Aside0.mk hy662
        clear hy662
        have H' := Aside0.mk H
        clear H
        have hcz70 := blk_cell BK630.out
        have hfz70 := blk_frozen BK630.out
        have p639 : 0 ≤ (x9_1 : Int) := od_
        have q639 : x9_1 < (l1_0.length : Int) := od_
        obtain ⟨ad639, e639, hx639_0, hx639_1, hx639_2, hx639_3, hx639_4⟩ := at_T71 (Kd.C_below HR1_0.out HB.out) x9_1 p639 q639
        cases e639
        replace p639 := eq_true p639
        replace q639 := eq_true q639
        go_wp2_with (first | ((with_reducible refine gate_dst (N := 10) rfl ?_); refine box_event ?hg (N := 10) ?hd (cs := #[.int .i64 0, .int .i64 0, .int .i64 0, .int .i64 0, .int .i64 0]) (t := 71) ?hr ?_; (case hd => rfl); (case hg => rfl); (case hr => first | (go_simp; done) | (go_simp; rfl)); intro gb640 hg w71 hbox hb; replace HO_7 := hob_ HO_7 hb; replace HO_8 := hob_ HO_8 hb; have BK640 := Aside0.mk (hbox); have GW640 := gs_ hg; have GE640 := gs_ hg; replace HB := hbs_ hb; have NB630_640 := nl_ hg BK630; have NB640_630 := nr_ hg BK630; replace BK630 := bkb_ BK630 hb; clear hb hbox hg; have hnb72 := NB640_630.out; have hnc72 := NB630_640.out; have hcz73 := blk_cell BK640.out; have hfz73 := blk_frozen BK640.out; obtain ⟨Ao74, co74, eo74⟩ := Kd.R_slice HO_8.out; subst eo74; have p661 : 0 ≤ (((rd_T71 l1_0 x9_1).f2) : Int) := od_; have q661 : ((rd_T71 l1_0 x9_1).f2) < (x8_1.length : Int) := od_; obtain ⟨ad661, e661, hx661_0⟩ := Kd.at_bool (Kd.R_reads' HO_8.out).2.2 ((rd_T71 l1_0 x9_1).f2) p661 q661; cases e661; have hn661_0 : ad661.block ≠ gb640 := Kd.own_blk (Kd.R_ne HO_8.out BK640.out (by decide)); have hn661_1 : ad661.block ≠ gb640 := Kd.own_blk (Kd.R_ne HO_8.out BK640.out (by decide)); have hn661_2 : ad661.block ≠ gb640 := Kd.own_blk (Kd.R_ne HO_8.out BK640.out (by decide)); have hn661_3 : ad661.block ≠ gb640 := Kd.own_blk (Kd.R_ne HO_8.out BK640.out (by decide)); have hn661_4 : ad661.block ≠ gb640 := Kd.own_blk (Kd.R_ne HO_8.out BK640.out (by decide)); replace hx661_0 := (cell_far (p := ⟨gb640, 0, none⟩) (by first | (rw [add_block]; exact hn661_0) | (show (Addr.add _ _).block ≠ _; rw [add_block]; exact hn661_0) | exact hn661_0) (.int .i64 ((rd_T71 l1_0 x9_1).f0))).trans hx661_0; replace hx661_0 := (cell_far (p := ⟨gb640, 1, none⟩) (by first | (rw [add_block]; exact hn661_1) | (show (Addr.add _ _).block ≠ _; rw [add_block]; exact hn661_1) | exact hn661_1) (.int .i64 ((rd_T71 l1_0 x9_1).f1.f0))).trans hx661_0; replace hx661_0 := (cell_far (p := ⟨gb640, 2, none⟩) (by first | (rw [add_block]; exact hn661_2) | (show (Addr.add _ _).block ≠ _; rw [add_block]; exact hn661_2) | exact hn661_2) (.int .i64 ((rd_T71 l1_0 x9_1).f1.f1))).trans hx661_0; replace hx661_0 := (cell_far (p := ⟨gb640, 3, none⟩) (by first | (rw [add_block]; exact hn661_3) | (show (Addr.add _ _).block ≠ _; rw [add_block]; exact hn661_3) | exact hn661_3) (.int .i64 ((rd_T71 l1_0 x9_1).f2))).trans hx661_0; replace hx661_0 := (cell_far (p := ⟨gb640, 4, none⟩) (by first | (rw [add_block]; exact hn661_4) | (show (Addr.add _ _).block ≠ _; rw [add_block]; exact hn661_4) | exact hn661_4) (.int .i64 ((rd_T71 l1_0 x9_1).f3))).trans hx661_0; clear hn661_0; clear hn661_1; clear hn661_2; clear hn661_3; clear hn661_4; replace p661 := eq_true p661; replace q661 := eq_true q661) | ((with_reducible refine gate_builtin (b := .append) (xs := #[.tmp 74, .tmp 76]) rfl ?_); at_builtin; refine Kd.R_append Kd.bool (w0 := w) w.heap.size rfl (.tmp 74) (.tmp 76) 103 4 (.bool false) 1 rfl Try.underlying103 info4 rfl (by decide) (by omega) (.slice (some ad661) x8_1.length co74) x8_1 (!(rdOf false x8_1 ((rd_T71 l1_0 x9_1).f2))) [.bool (!(rdOf false x8_1 ((rd_T71 l1_0 x9_1).f2)))] (fun _ => True) (fun _ => False) rfl (by first | (go_simp; done) | (go_simp; rfl)) ?aP (fun _ hk => hk.elim) ?aF ?aO ?aB ?aS ?aL ?_; (case aP => exact rfl); (case aB => exact bl_); (case aF => exact (fun _ _ => trivial)); (case aO => exact (by (with_reducible repeat (first | apply Kd.R_alloc | apply Kd.R_drewN | apply Kd.R_drew)); exact Kd.R_mono (Kd.R_far (p := ⟨gb640, 4, none⟩) (Kd.R_far (p := ⟨gb640, 3, none⟩) (Kd.R_far (p := ⟨gb640, 2, none⟩) (Kd.R_far (p := ⟨gb640, 1, none⟩) (Kd.R_far (p := ⟨gb640, 0, none⟩) (Kd.R_types HO_8.out BK640.out (by decide)) (fun _ hk => hk.2) (.int .i64 ((rd_T71 l1_0 x9_1).f0))) (fun _ hk => hk.2) (.int .i64 ((rd_T71 l1_0 x9_1).f1.f0))) (fun _ hk => hk.2) (.int .i64 ((rd_T71 l1_0 x9_1).f1.f1))) (fun _ hk => hk.2) (.int .i64 ((rd_T71 l1_0 x9_1).f2))) (fun _ hk => hk.2) (.int .i64 ((rd_T71 l1_0 x9_1).f3))) (fun _ hk => trivial))); (case aS => exact bls_); (case aL => have := LMc69.out; omega); intro v663 w75 ho hb hg hat; rw [← Ny662.out] at ho; replace HO_7 := Aside0.mk (Kd.R_over' (by (with_reducible repeat (first | apply Kd.R_alloc | apply Kd.R_drewN | apply Kd.R_drew)); exact (Kd.R_mono (Kd.R_far (p := ⟨gb640, 4, none⟩) (Kd.R_far (p := ⟨gb640, 3, none⟩) (Kd.R_far (p := ⟨gb640, 2, none⟩) (Kd.R_far (p := ⟨gb640, 1, none⟩) (Kd.R_far (p := ⟨gb640, 0, none⟩) (Kd.R_types HO_7.out BK640.out (by decide)) (fun _ hk => hk.2) (.int .i64 ((rd_T71 l1_0 x9_1).f0))) (fun _ hk => hk.2) (.int .i64 ((rd_T71 l1_0 x9_1).f1.f0))) (fun _ hk => hk.2) (.int .i64 ((rd_T71 l1_0 x9_1).f1.f1))) (fun _ hk => hk.2) (.int .i64 ((rd_T71 l1_0 x9_1).f2))) (fun _ hk => hk.2) (.int .i64 ((rd_T71 l1_0 x9_1).f3))) (fun _ h_ => h_.1))) (Kd.R_typed (by (with_reducible repeat (first | apply Kd.R_alloc | apply Kd.R_drewN | apply Kd.R_drew)); exact (Kd.R_mono (Kd.R_far (p := ⟨gb640, 4, none⟩) (Kd.R_far (p := ⟨gb640, 3, none⟩) (Kd.R_far (p := ⟨gb640, 2, none⟩) (Kd.R_far (p := ⟨gb640, 1, none⟩) (Kd.R_far (p := ⟨gb640, 0, none⟩) (Kd.R_types HO_8.out BK640.out (by decide)) (fun _ hk => hk.2) (.int .i64 ((rd_T71 l1_0 x9_1).f0))) (fun _ hk => hk.2) (.int .i64 ((rd_T71 l1_0 x9_1).f1.f0))) (fun _ hk => hk.2) (.int .i64 ((rd_T71 l1_0 x9_1).f1.f1))) (fun _ hk => hk.2) (.int .i64 ((rd_T71 l1_0 x9_1).f2))) (fun _ hk => hk.2) (.int .i64 ((rd_T71 l1_0 x9_1).f3))) (fun _ h_ => h_.1)))) (by decide) hg); replace BK630 := Aside0.mk (blk_grown (g := gb630) (o := .cells #[.slice (some ad639) l1_0.length c1_0] 68 (0, 0)) (bk_ BK630) hg (Kd.R_ne HO_8.out BK630.out (by decide))); replace BK640 := Aside0.mk (blk_grown (g := gb640) (o := .cells #[.int .i64 ((rd_T71 l1_0 x9_1).f0), .int .i64 ((rd_T71 l1_0 x9_1).f1.f0), .int .i64 ((rd_T71 l1_0 x9_1).f1.f1), .int .i64 ((rd_T71 l1_0 x9_1).f2), .int .i64 ((rd_T71 l1_0 x9_1).f3)] 71 (0, 0)) (bk_ BK640) hg (Kd.R_ne HO_8.out BK640.out (by decide))); replace HB := Aside0.mk (hb); have HO664 := Aside0.mk (ho); clear HO_8; clear ho hb hg hat))
        go_roundg k1
        case measure => have := HK1.out; omega
        case rel => exact ⟨(y662), (wrap64 (x9_1 + 1)), rf_, H', ⟨by have := HK1.out; omega⟩, ⟨by (with_reducible repeat (first | apply Kd.R_alloc | apply Kd.R_drewN | apply Kd.R_drew)); exact HO_7.out⟩, ⟨by (with_reducible repeat (first | apply Kd.R_alloc | apply Kd.R_drewN | apply Kd.R_drew)); exact HO664.out⟩, ⟨bk_ BK630⟩, ⟨bl_⟩⟩
    ·rw [if_neg c13] at H
     have c13b0 : decide (x9_1 < (l1_0.length : Int)) = false := decide_eq_false c13
     clear c13
     obtain ⟨ji76, hji76⟩ : ∃ j_ : Int, (wrap64 ((x8_1.length : Int) - 1)) = j_ := ⟨_, rfl⟩
     replace H : (if 0 ≤ (ji76) then (if (ji76) < (x8_1.length : Int) then (some (rdOf false x8_1 (ji76))) else (none)) else (none)) = some r := by first | (rw [hji76] at H; exact H) | (simp only [hji76] at H ⊢; exact H)
     have hji76w : (IntKind.i64.wrap ((x8_1.length : Int) - 1)) = ji76 := (i64_w _).trans hji76
     obtain ⟨c77b0, H⟩ := ifd_ H
     obtain ⟨c78b0, H⟩ := ifd_ H
     obtain rfl := Option.some.inj H
     have hcz79 := blk_cell BK630.out
     have hfz79 := blk_frozen BK630.out
     obtain ⟨Ao80, co80, eo80⟩ := Kd.R_slice HO_8.out
     subst eo80
     have p638 : 0 ≤ ((ji76) : Int) := od_
     have q638 : (ji76) < (x8_1.length : Int) := od_
     obtain ⟨ad638, e638, hx638_0⟩ := Kd.at_bool (Kd.R_reads' HO_8.out).2.2 (ji76) p638 q638
     cases e638
     replace p638 := eq_true p638
     replace q638 := eq_true q638
     go_wp2
     go_ret
     exact ⟨by first | rfl | (simp [errW_none, errW_some] <;> rfl) | (simp only [← hji76]; first | rfl | (simp [errW_none, errW_some] <;> rfl)) | (simp [*, errW_none, errW_some] <;> rfl), bl_⟩
 ·replace c5 := Bool.eq_false_iff.mpr c5
  subst c5
  replace H := ite_f_ H
  obtain rfl := Option.some.inj H
  go_enter Try.func64, Try.ntmps64
  go_wp2_with (first | ((with_reducible refine gate_dst (N := 4) rfl ?_); refine box_event ?hg (N := 4) ?hd (cs := #[.slice A1_0 l1_0.length c1_0]) (t := 68) ?hr ?_; (case hd => rfl); (case hg => rfl); (case hr => first | (go_simp; done) | (go_simp; rfl)); intro gb630 hg w81 hbox hb; have BK630 := Aside0.mk (hbox); have GW630 := gs_ hg; have GE630 := gs_ hg; replace HB := hbs_ hb; clear hb hbox hg; have hcz82 := blk_cell BK630.out; have hfz82 := blk_frozen BK630.out) | ((with_reducible refine gate_callee (f := 111) rfl ?_); refine goesC_ (some 13) Try.func111 #[.agg #[.slice A1_0 l1_0.length c1_0]] ?_; (with_reducible refine (spec_PolicyOk.calls k _ _ l1_0 false _ ?side1 ?side2 A4.out).mono ?_); (case side1 => repeat (first | exact (Kd.C_below HR1_0.out HB.out) | (with_reducible refine Kd.C_alloc ?_ _) | (with_reducible refine Kd.C_drewN ?_ _) | (with_reducible refine Kd.C_drew ?_))); (case side2 => exact HC1_0.out); rintro e w83 ⟨rfl, hb⟩; refine ⟨_, rfl, ?_⟩; replace BK630 := bkb_ BK630 hb; replace HB := hbs_ hb; clear hb))
  go_ret
  exact ⟨eq_, bl_⟩
def spec_l13Done.l0 : Nat → List (S27) → Int → Int → Int → Option (Bool)
 | 0, _, _, _, _ => none
 | k + 1, x0, x5, x666000, x666001 => if x5 < (x0.length : Int) then (if 0 ≤ x5 then (if (((rd_T27 x0 x5).f0) == x666000 && (((rd_T27 x0 x5).f1) == x666001)) = true then (some true) else (spec_l13Done.l0 k x0 (wrap64 (x5 + 1)) x666000 x666001)) else (none)) else (some false)
def spec_l13Done.f (k : Nat) (l0 : List (S27)) (a1_0 : Int) (a1_1 : Int) : Option (Bool) := spec_l13Done.l0 k l0 0 a1_0 a1_1
set_option maxHeartbeats 8000000 in
set_option maxRecDepth 100000 in
theorem spec_l13Done.calls (k : Nat) (A0 : Option Addr) (c0 : Nat) (l0 : List (S27)) (a1_0 : Int) (a1_1 : Int) (r : Bool) (w : World) (hr0 : Kd.C k27 w A0 l0.length l0) (hc0 : l0.length ≤ c0) (h : spec_l13Done.f k l0 a1_0 a1_1 = some r) :
  Calls Try.prog 116 #[.slice A0 l0.length c0, .agg #[.int .i64 a1_0, .int .i64 a1_1]] w fun e w' => e = .returned (.bool r) ∧ Below w.heap.size w w' := by
 have hu27 := Try.underlying27
 have HR0 := Aside0.mk hr0
 have HC0 := Aside0.mk hc0
 clear hr0 hc0
 have HB := Aside0.mk (Below.refl w.heap.size w)
 have H : (spec_l13Done.l0 k l0 0 a1_0 a1_1) = some r := h
 clear h
 have H' := Aside0.mk H
 clear H
 go_enter Try.func116, Try.ntmps116
 go_wp2_with (first | ((with_reducible refine gate_dst (N := 3) rfl ?_); refine box_event ?hg (N := 3) ?hd (cs := #[.int .i64 a1_0, .int .i64 a1_1]) (t := 27) ?hr ?_; (case hd => rfl); (case hg => rfl); (case hr => first | (go_simp; done) | (go_simp; rfl)); intro gb665 hg w3 hbox hb; have BK665 := Aside0.mk (hbox); have GW665 := gs_ hg; have GE665 := gs_ hg; replace HB := hbs_ hb; clear hb hbox hg))
 repeat (go_quiet (first | ((with_reducible refine gate_dst (N := 3) rfl ?_); refine box_event ?hg (N := 3) ?hd (cs := #[.int .i64 a1_0, .int .i64 a1_1]) (t := 27) ?hr ?_; (case hd => rfl); (case hg => rfl); (case hr => first | (go_simp; done) | (go_simp; rfl)); intro gb665 hg w3 hbox hb; have BK665 := Aside0.mk (hbox); have GW665 := gs_ hg; have GE665 := gs_ hg; replace HB := hbs_ hb; clear hb hbox hg)); try go_wp2_with (first | ((with_reducible refine gate_dst (N := 3) rfl ?_); refine box_event ?hg (N := 3) ?hd (cs := #[.int .i64 a1_0, .int .i64 a1_1]) (t := 27) ?hr ?_; (case hd => rfl); (case hg => rfl); (case hr => first | (go_simp; done) | (go_simp; rfl)); intro gb665 hg w3 hbox hb; have BK665 := Aside0.mk (hbox); have GW665 := gs_ hg; have GE665 := gs_ hg; replace HB := hbs_ hb; clear hb hbox hg)))
 go_loopg [5] k (fun kq v5 w' => ∃ (x5_1 : Int), v5 = .int .i64 x5_1 ∧ Aside0 (spec_l13Done.l0 kq l0 x5_1 a1_0 a1_1 = some r) ∧ Aside0 (kq ≤ k) ∧ Aside0 (w'.heap[gb665]? = some (.cells #[.int .i64 a1_0, .int .i64 a1_1] 27 (0, 0))) ∧ Aside0 (Below w.heap.size w w'))
 case atStart => exact ⟨(0), rf_, H', ⟨Nat.le_refl _⟩, ⟨bk_ BK665⟩, ⟨bl_⟩⟩
 case round =>
  clear H'
  try clear c1
  try clear p2
  obtain ⟨x5_1, rfl, HA, HK1, BK665, HB⟩ := hrel
  cases gk with
  | zero => exact absurd HA.out (by simp [spec_l13Done.l0])
  | succ k1 =>
   have H := HA.out
   clear HA
   simp only [spec_l13Done.l0] at H
   by_cases c4 : x5_1 < (l0.length : Int)
   ·rw [if_pos c4] at H
    have c4b0 : decide (x5_1 < (l0.length : Int)) = true := decide_eq_true c4
    clear c4
    obtain ⟨c5b0, H⟩ := ifd_ H
    by_cases c6 : (((rd_T27 l0 x5_1).f0) == a1_0 && (((rd_T27 l0 x5_1).f1) == a1_1)) = true
    ·rw [if_pos c6] at H
     have c6b0 : (((rd_T27 l0 x5_1).f0) == a1_0 && (((rd_T27 l0 x5_1).f1) == a1_1)) = true := c6
     (try (have c6b1 : decide (((rd_T27 l0 x5_1).f0) = a1_0 && (((rd_T27 l0 x5_1).f1) == a1_1)) = true := by simpa using c6))
     (try (have c6b2 : (((rd_T27 l0 x5_1).f0) == a1_0 && (((rd_T27 l0 x5_1).f1) == a1_1)) = true := by simpa using c6))
     clear c6
     obtain rfl := Option.some.inj H
     have p666 : 0 ≤ (x5_1 : Int) := od_
     have q666 : x5_1 < (l0.length : Int) := od_
     obtain ⟨ad666, e666, hx666_0, hx666_1⟩ := at_T27 (Kd.C_below HR0.out HB.out) x5_1 p666 q666
     cases e666
     replace p666 := eq_true p666
     replace q666 := eq_true q666
     have hcz7 := blk_cell BK665.out
     have hfz7 := blk_frozen BK665.out
     go_wp2
     repeat (go_quiet (fail); try go_wp2)
     go_ret
     exact ⟨eq_, bl_⟩
    ·rw [if_neg c6] at H
     have c6b0 : (((rd_T27 l0 x5_1).f0) == a1_0 && (((rd_T27 l0 x5_1).f1) == a1_1)) = false := by simpa using c6
     (try (have c6b1 : decide (((rd_T27 l0 x5_1).f0) = a1_0 && (((rd_T27 l0 x5_1).f1) == a1_1)) = false := by simpa using c6))
     (try (have c6b2 : (((rd_T27 l0 x5_1).f0) == a1_0 && (((rd_T27 l0 x5_1).f1) == a1_1)) = false := by simpa using c6))
     (try (have c6b3 : ¬ (((rd_T27 l0 x5_1).f0) = a1_0 && (((rd_T27 l0 x5_1).f1) == a1_1)) := by simpa using c6))
     clear c6
     have H' := Aside0.mk H
     clear H
     have p666 : 0 ≤ (x5_1 : Int) := od_
     have q666 : x5_1 < (l0.length : Int) := od_
     obtain ⟨ad666, e666, hx666_0, hx666_1⟩ := at_T27 (Kd.C_below HR0.out HB.out) x5_1 p666 q666
     cases e666
     replace p666 := eq_true p666
     replace q666 := eq_true q666
     have hcz8 := blk_cell BK665.out
     have hfz8 := blk_frozen BK665.out
     go_wp2
     repeat (go_quiet (fail); try go_wp2)
     go_roundg k1
     case measure => have := HK1.out; omega
     case rel => exact ⟨(wrap64 (x5_1 + 1)), rf_, H', ⟨by have := HK1.out; omega⟩, ⟨bk_ BK665⟩, ⟨bl_⟩⟩
   ·rw [if_neg c4] at H
    have c4b0 : decide (x5_1 < (l0.length : Int)) = false := decide_eq_false c4
    clear c4
    obtain rfl := Option.some.inj H
    go_wp2
    repeat (go_quiet (fail); try go_wp2)
    go_ret
    exact ⟨eq_, bl_⟩
end Go.Proofs.Ytppdmcimddhbaaa.PE
