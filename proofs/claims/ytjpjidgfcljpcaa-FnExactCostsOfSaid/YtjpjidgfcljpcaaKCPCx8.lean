import Derived.Test.YtjpjidgfcljpcaaKCPCx7
-- printed by wip/tools
namespace Go.Proofs.Ytjpjidgfcljpcaa.PC
open Go.RowKit Go.Proofs.YtjpjidgfcljpcaaW.PrintWords Go.Proofs.YtjpjidgfcljpcaaW.PrintLast Go.Proofs.YtjpjidgfcljpcaaW.PrintMore
attribute [local go_sem] max2_int min2_int max_two min_two max_three min_three max_four min_four
set_option linter.unusedVariables false
set_option linter.unusedSimpArgs false
attribute [local go_sem high] eqA49
def spec_CostsOf.l0 : Nat → List (S51) → List Int → List (S53) → Int → Option ((List (S53)))
 | 0, _, _, _, _ => none
 | k + 1, x3, x4, x5, x6 => if x6 < (x3.length : Int) then (if 0 ≤ x6 then (if x6 < (x4.length : Int) then (if x5.length < 4398046511104 then (spec_CostsOf.l0 k x3 x4 (x5 ++ [(⟨(⟨(⟨(rd_T51 x3 x6).f0.f0, (rd_T51 x3 x6).f0.f1⟩ : S49), (rd_T51 x3 x6).f1⟩ : S51), rd x4 x6⟩ : S53)]) (wrap64 (x6 + 1))) else (none)) else (none)) else (none)) else (some x5)
def spec_CostsOf.f (k : Nat) (l0 : List (S56)) : Option ((List (S53))) := (spec_FactsOf.f k l0).bind fun t217 => ((spec_l19Sizes.f k l0 t217).bind fun t220 => (spec_CostsOf.l0 k t217 t220 (([] : List (S53))) 0))
def spec_CostsOf.T7 : Bool × List (List Nat × List Nat) := (true, [([], []), ([], []), ([], []), ([1, 2], [1, 2]), ([3], [3]), ([], []), ([], []), ([5, 6], [5, 6]), ([7], [7]), ([4, 8], [4, 8]), ([9], [9]), ([0, 10], [0, 10]), ([11, 11, 0, 1, 2, 3, 4, 5, 6, 7, 8, 9, 10, 11], [0, 11])])
def spec_CostsOf.B7 : List Nat := [0, 0, 0, 6, 14, 0, 0, 96, 224, 510, 1022, 2047, 4095]
theorem spec_CostsOf.tab7 : rtab .any (opsOf Try.f21 7) = spec_CostsOf.T7 := by kernel_rfl
theorem spec_CostsOf.bits7 : waitsOk spec_CostsOf.T7.2 spec_CostsOf.B7 = true := by kernel_rfl
set_option maxHeartbeats 8000000 in
set_option maxRecDepth 100000 in
theorem spec_CostsOf.calls (k : Nat) (A0 : Option Addr) (c0 : Nat) (l0 : List (S56)) (r : List (S53)) (w : World) (hr0 : Kd.C k56 w A0 l0.length l0) (hc0 : l0.length ≤ c0) (h : spec_CostsOf.f k l0 = some r) :
  Calls Try.prog 21 #[.slice A0 l0.length c0] w fun e w' => ∃ v0_ : Value, e = .returned (v0_) ∧ Kd.R k53 53 w' w.heap.size (fun _ => True) v0_ r ∧ Below w.heap.size w w' := by
 have hu51 := Try.underlying51
 have hu53 := Try.underlying53
 have HR0 := Aside0.mk hr0
 have HC0 := Aside0.mk hc0
 clear hr0 hc0
 have HB := Aside0.mk (Below.refl w.heap.size w)
 have H : ((spec_FactsOf.f k l0).bind fun t217 => ((spec_l19Sizes.f k l0 t217).bind fun t220 => (spec_CostsOf.l0 k t217 t220 (([] : List (S53))) 0))) = some r := h
 clear h
 obtain ⟨t217, A2, H⟩ := bindE_ H
 obtain ⟨t220, A3, H⟩ := bindE_ H
 obtain ⟨y223, hy223⟩ : ∃ y_ : List (S53), y_ = (([] : List (S53))) := ⟨_, rfl⟩
 replace H : (spec_CostsOf.l0 k t217 t220 y223 0) = some r := by first | (rw [hy223]; with_reducible exact H) | (have H2_ := (Option.bind_some _ _).symm.trans H; rw [hy223]; with_reducible exact H2_) | (have H2_ := (Option.bind_some _ _).symm.trans H; with_reducible exact H2_) | with_reducible exact H | (rw [hy223]; exact H) | exact H
 have Ny223 := Aside0.mk hy223
 clear hy223
 have H' := Aside0.mk H
 clear H
 go_enter Try.func21, Try.ntmps21
 go_wp2_with (first | ((with_reducible refine gate_callee (f := 36) rfl ?_); refine goesC_ (some 8) Try.func36 #[.slice A0 l0.length c0] ?_; (with_reducible refine (spec_FactsOf.calls k _ _ l0 t217 _ ?side1 ?side2 A2.out).mono ?_); (case side1 => repeat (first | exact HR0.out | (with_reducible refine Kd.C_alloc ?_ _) | (with_reducible refine Kd.C_drewN ?_ _) | (with_reducible refine Kd.C_drew ?_))); (case side2 => exact HC0.out); rintro e w4 ⟨v218, rfl, ho0, hb⟩; refine ⟨_, rfl, ?_⟩; have HO219 := Aside0.mk (Kd.R_lower ho0 bls_); replace HB := hbs_ hb; (try clear hb); (try clear hb2); (try clear hk); (try clear hi); (try clear ho0); obtain ⟨Ao5, co5, eo5⟩ := Kd.R_slice HO219.out; subst eo5) | ((with_reducible refine gate_callee (f := 88) rfl ?_); refine goesC_ (some 11) Try.func88 #[.slice A0 l0.length c0, .slice Ao5 t217.length co5] ?_; (with_reducible refine (spec_l19Sizes.calls k _ _ l0 _ _ t217 t220 _ ?side1 ?side2 ?side3 ?side4 A3.out).mono ?_); (case side1 => repeat (first | exact (Kd.C_below HR0.out HB.out) | (with_reducible refine Kd.C_alloc ?_ _) | (with_reducible refine Kd.C_drewN ?_ _) | (with_reducible refine Kd.C_drew ?_))); (case side2 => exact HC0.out); (case side3 => repeat (first | exact (Kd.R_reads' HO219.out).2.2 | (with_reducible refine Kd.C_alloc ?_ _) | (with_reducible refine Kd.C_drewN ?_ _) | (with_reducible refine Kd.C_drew ?_))); (case side4 => exact (Kd.R_reads' HO219.out).2.1); rintro e w6 ⟨v221, rfl, ho0, hb⟩; refine ⟨_, rfl, ?_⟩; replace HO219 := hob_ HO219 hb; have HO222 := Aside0.mk (Kd.R_lower ho0 bls_); replace HB := hbs_ hb; (try clear hb); (try clear hb2); (try clear hk); (try clear hi); (try clear ho0)) | ((with_reducible refine gate_dst (N := 12) rfl ?_); refine Kd.R_lit k53 _ 53 ?hg (N := 12) ?hd (xs := ([] : List (S53))) (inner := []) (ok := fun _ => True) (okp := fun _ => True) ?hr ?hp (fun _ hk => hk) trivial (Below.refl _ _) (Nat.le_refl _) (by simp) ?_; (case hd => rfl); (case hg => rfl); (case hr => first | (go_simp; done) | (go_simp; rfl)); (case hp => exact (Reps.none _ _)); intro v224 w7 ho8 hb hg_ hnew_; clear hg_ hnew_; (first | rw [← Ny223.out] at ho8 | (simp only [Int.reduceToNat] at ho8; rw [← Ny223.out] at ho8)); replace HO219 := hob_ HO219 hb; replace HO222 := hob_ HO222 hb; have HO225 := Aside0.mk (Kd.R_lower ho8 bls_); replace HB := hbs_ hb; clear hb ho8))
 go_loopg [5, 6] k (fun kq v5 v6 w' => ∃ (x5_1 : List (S53)) (x6_1 : Int), v6 = .int .i64 x6_1 ∧ Aside0 (spec_CostsOf.l0 kq t217 t220 x5_1 x6_1 = some r) ∧ Aside0 (kq ≤ k) ∧ Aside0 (Kd.R k51 51 w' w.heap.size (fun _ => True) (.slice Ao5 t217.length co5) t217) ∧ Aside0 (Kd.R (Kd.int .i64) 3 w' w.heap.size (fun _ => True) v221 t220) ∧ Aside0 (Kd.R k53 53 w' w.heap.size (fun _ => True) v5 x5_1) ∧ Aside0 (Below w.heap.size w w'))
 case atStart => exact ⟨(y223), (0), rf_, H', ⟨Nat.le_refl _⟩, ⟨by (with_reducible repeat (first | apply Kd.R_alloc | apply Kd.R_drewN | apply Kd.R_drew)); exact HO219.out⟩, ⟨by (with_reducible repeat (first | apply Kd.R_alloc | apply Kd.R_drewN | apply Kd.R_drew)); exact HO222.out⟩, ⟨by (with_reducible repeat (first | apply Kd.R_alloc | apply Kd.R_drewN | apply Kd.R_drew)); exact HO225.out⟩, ⟨bl_⟩⟩
 case round =>
  clear H'
  try clear c2
  try clear p2
  try clear c3
  try clear c8
  obtain ⟨x5_1, x6_1, rfl, HA, HK1, HO_3, HO_4, HO_5, HB⟩ := hrel
  cases gk with
  | zero => exact absurd HA.out (by simp [spec_CostsOf.l0])
  | succ k1 =>
   have H := HA.out
   clear HA
   simp only [spec_CostsOf.l0] at H
   by_cases c9 : x6_1 < (t217.length : Int)
   ·rw [if_pos c9] at H
    have c9b0 : decide (x6_1 < (t217.length : Int)) = true := decide_eq_true c9
    clear c9
    obtain ⟨c10b0, H⟩ := ifd_ H
    obtain ⟨c11b0, H⟩ := ifd_ H
    obtain ⟨c12, H⟩ := ifn_ H
    have LMc12 := Aside0.mk c12
    clear c12
    obtain ⟨y228, hy228⟩ : ∃ y_ : List (S53), y_ = (x5_1 ++ [(⟨(⟨(⟨(rd_T51 t217 x6_1).f0.f0, (rd_T51 t217 x6_1).f0.f1⟩ : S49), (rd_T51 t217 x6_1).f1⟩ : S51), rd t220 x6_1⟩ : S53)]) := ⟨_, rfl⟩
    replace H : (spec_CostsOf.l0 k1 t217 t220 y228 (wrap64 (x6_1 + 1))) = some r := by first | (rw [hy228]; with_reducible exact H) | (have H2_ := (Option.bind_some _ _).symm.trans H; rw [hy228]; with_reducible exact H2_) | (have H2_ := (Option.bind_some _ _).symm.trans H; with_reducible exact H2_) | with_reducible exact H | (rw [hy228]; exact H) | exact H
    have Ny228 := Aside0.mk hy228
    clear hy228
    have H' := Aside0.mk H
    clear H
    try go_wp2
    replace HO_3 := Aside0.mk (Kd.R_drew HO_3.out)
    replace HO_4 := Aside0.mk (Kd.R_drew HO_4.out)
    replace HO_5 := Aside0.mk (Kd.R_drew HO_5.out)
    replace HB := Aside0.mk (below_drew1 HB.out)
    have p226 : 0 ≤ (x6_1 : Int) := od_
    have q226 : x6_1 < (t217.length : Int) := od_
    obtain ⟨ad226, e226, hx226_0, hx226_1, hx226_2⟩ := at_T51 (Kd.R_reads' HO_3.out).2.2 x6_1 p226 q226
    cases e226
    replace p226 := eq_true p226
    replace q226 := eq_true q226
    obtain ⟨Ao14, co14, eo14⟩ := Kd.R_slice HO_4.out
    (first | subst eo14 | (injection eo14 with f1_ f2_ f3_; have f4_ := f1_.symm; have f5_ := f3_.symm; clear f1_ f2_ f3_; subst f4_; subst f5_))
    have p227 : 0 ≤ (x6_1 : Int) := od_
    have q227 : x6_1 < (t220.length : Int) := od_
    obtain ⟨ad227, e227, hx227_0⟩ := Kd.at_int (Kd.R_reads' HO_4.out).2.2 x6_1 p227 q227
    cases e227
    replace p227 := eq_true p227
    replace q227 := eq_true q227
    refine start_ (n := 13) (S := fun w' => w'.cell? (ad226.add ((x6_1).toNat * 3)) = some (.int .i64 ((rd_T51 t217 x6_1).f0.f0)) ∧ w'.cell? ⟨(ad226.add ((x6_1).toNat * 3)).block, (ad226.add ((x6_1).toNat * 3)).off + 1, none⟩ = some (.int .i64 ((rd_T51 t217 x6_1).f0.f1)) ∧ w'.cell? ⟨(ad226.add ((x6_1).toNat * 3)).block, (ad226.add ((x6_1).toNat * 3)).off + 2, none⟩ = some (.int .i64 ((rd_T51 t217 x6_1).f1)) ∧ w'.cell? (ad227.add (x6_1).toNat) = some (.int .i64 (rd t220 x6_1))) (ds := [10, 11]) #[false, false, false, false, false, false, false, false, false, false, false, false, false] (by kernel_rfl) rfl rfl ⟨hx226_0, hx226_1, hx226_2, hx227_0⟩ (fun hHeld => ?_); refine with_tabW spec_CostsOf.tab7 spec_CostsOf.bits7 (fun HT_ HW_ => ?_)
    generalize wr.drew = w13 at HO_3 HO_4 HO_5 HB hx226_0 hx226_1 hx226_2 hx227_0 hHeld ⊢
    refine pureZ_ (i := 0) (some 19) #[true, false, false, false, false, false, false, false, false, false, false, false, false] (any_of HT_.out (by kernel_rfl)) ?_
    refine pureZ_ (i := 1) (some 20) #[true, true, false, false, false, false, false, false, false, false, false, false, false] (any_of HT_.out (by kernel_rfl)) ?_
    refine pureZ_ (i := 2) (some 21) #[true, true, true, false, false, false, false, false, false, false, false, false, false] (any_of HT_.out (by kernel_rfl)) ?_
    refine pureZ_ (i := 3) (some 22) #[true, true, true, true, false, false, false, false, false, false, false, false, false] (any_of HT_.out (by kernel_rfl)) ?_
    refine pureZ_ (i := 5) (some 24) #[true, true, true, true, false, true, false, false, false, false, false, false, false] (any_of HT_.out (by kernel_rfl)) ?_
    refine pureZ_ (i := 6) (some 25) #[true, true, true, true, false, true, true, false, false, false, false, false, false] (any_of HT_.out (by kernel_rfl)) ?_
    refine pureZ_ (i := 7) (some 26) #[true, true, true, true, false, true, true, true, false, false, false, false, false] (any_of HT_.out (by kernel_rfl)) ?_
    refine takeZ_ (i := 4) (some 23) #[true, true, true, true, true, true, true, true, false, false, false, false, false] (take_ofW HT_.out HW_.out (by kernel_rfl)) hHeld ?_
    refine takeZ_ (i := 8) (some 27) #[true, true, true, true, true, true, true, true, true, false, false, false, false] (take_ofW HT_.out HW_.out (by kernel_rfl)) hHeld ?_
    refine pureZ_ (i := 9) (some 28) #[true, true, true, true, true, true, true, true, true, true, false, false, false] (any_of HT_.out (by kernel_rfl)) ?_
    refine last_ (i := 10) (N := some 29) #[true, true, true, true, true, true, true, true, true, true, true, false, false] rfl rfl (one_of HT_.out (by kernel_rfl)) (by decide) (fun K hK => ?_)
    refine value_ (w1 := ?_) (v := ?_) (by rfl) rfl ?_ ?_
    rotate_left 2
    ·go_simp
     constructor
     ·rfl
     ·rfl
    refine hK.out _ _ ?_
    clear hK K
    refine norm_ (a' := ?_) ?_ ?_
    rotate_left
    ·show Act.put _ (some 29) _ = _
     simp only [Act.put, List.setIfInBounds_toArray, List.set_cons_zero, List.set_cons_succ, i64_w, i32_w]
     rfl
    refine last_ (i := 11) (N := some 30) #[true, true, true, true, true, true, true, true, true, true, true, true, false] rfl rfl (one_of HT_.out (by kernel_rfl)) (by decide) (fun K hK => ?_)
    refine Kd.R_append_step k53 (w0 := w) w.heap.size (by rfl) (.tmp 19) (.tmp 29) 30 53 (.agg #[(.int .i64 0), (.int .i64 0), (.int .i64 0), (.int .i64 0)]) 32 rfl Try.underlying30 info53 rfl (by decide) (by omega) u5 x5_1 (⟨(⟨(⟨(rd_T51 t217 x6_1).f0.f0, (rd_T51 t217 x6_1).f0.f1⟩ : S49), (rd_T51 t217 x6_1).f1⟩ : S51), rd t220 x6_1⟩ : S53) [.int .i64 ((rd_T51 t217 x6_1).f0.f0), .int .i64 ((rd_T51 t217 x6_1).f0.f1), .int .i64 ((rd_T51 t217 x6_1).f1), .int .i64 (rd t220 x6_1)] (fun _ => True) (fun _ => False) rfl rfl ?aP (fun _ hk => hk.elim) ?aF ?aO ?aB ?aS ?aL ?_
    (case aP => exact k53_mkM _ _ _ (⟨(⟨(⟨(rd_T51 t217 x6_1).f0.f0, (rd_T51 t217 x6_1).f0.f1⟩ : S49), (rd_T51 t217 x6_1).f1⟩ : S51), rd t220 x6_1⟩ : S53))
    (case aB => exact bl_)
    (case aF => exact (fun _ _ => trivial))
    (case aO => exact (by (with_reducible repeat (first | apply Kd.R_alloc | apply Kd.R_drewN | apply Kd.R_drew)); exact HO_5.out))
    (case aS => exact bls_)
    (case aL => have := LMc12.out; omega)
    intro v229 w15 ho hb hg hat
    rw [← Ny228.out] at ho
    replace HO_3 := Aside0.mk (Kd.R_over' (by (with_reducible repeat (first | apply Kd.R_alloc | apply Kd.R_drewN | apply Kd.R_drew)); exact HO_3.out) (Kd.R_typed (by (with_reducible repeat (first | apply Kd.R_alloc | apply Kd.R_drewN | apply Kd.R_drew)); exact HO_5.out)) (by decide) hg)
    replace HO_4 := Aside0.mk (Kd.R_over' (by (with_reducible repeat (first | apply Kd.R_alloc | apply Kd.R_drewN | apply Kd.R_drew)); exact HO_4.out) (Kd.R_typed (by (with_reducible repeat (first | apply Kd.R_alloc | apply Kd.R_drewN | apply Kd.R_drew)); exact HO_5.out)) (by decide) hg)
    replace HB := Aside0.mk (hb)
    have HO230 := Aside0.mk (ho)
    clear HO_5
    clear ho hb hg hat
    refine hK.out _ _ ?_
    clear hK K
    refine norm_ (a' := ?_) ?_ ?_
    rotate_left
    ·show Act.put _ (some 30) _ = _
     simp only [Act.put, List.setIfInBounds_toArray, List.set_cons_zero, List.set_cons_succ, i64_w, i32_w]
     rfl
    refine pureZ_ (i := 12) (some 5) #[true, true, true, true, true, true, true, true, true, true, true, true, true] (any_of HT_.out (by kernel_rfl)) ?_
    refine done_ (done_of HT_.out (by kernel_rfl)) ?_
    try go_wp2
    go_roundg k1
    case measure => have := HK1.out; omega
    case rel => exact ⟨(y228), (wrap64 (x6_1 + 1)), rf_, H', ⟨by have := HK1.out; omega⟩, ⟨by (with_reducible repeat (first | apply Kd.R_alloc | apply Kd.R_drewN | apply Kd.R_drew)); exact HO_3.out⟩, ⟨by (with_reducible repeat (first | apply Kd.R_alloc | apply Kd.R_drewN | apply Kd.R_drew)); exact HO_4.out⟩, ⟨by (with_reducible repeat (first | apply Kd.R_alloc | apply Kd.R_drewN | apply Kd.R_drew)); exact HO230.out⟩, ⟨bl_⟩⟩
   ·rw [if_neg c9] at H
    have c9b0 : decide (x6_1 < (t217.length : Int)) = false := decide_eq_false c9
    clear c9
    obtain rfl := Option.some.inj H
    go_wp2
    go_ret
    exact ⟨_, eq_, by (with_reducible repeat (first | apply Kd.R_alloc | apply Kd.R_drewN | apply Kd.R_drew)); exact HO_5.out, bl_⟩
def laws_toRole.f (a0_0 : Int) (a0_1 : Int) : Option (Int × Int) := some (a0_0, a0_1)
set_option maxHeartbeats 8000000 in
set_option maxRecDepth 100000 in
theorem laws_toRole.calls (a0_0 : Int) (a0_1 : Int) (r1 : Int) (r2 : Int) (w : World) (h : laws_toRole.f a0_0 a0_1 = some (r1, r2)) :
  Calls Try.prog 71 #[.agg #[.int .i64 a0_0, .int .i64 a0_1]] w fun e w' => e = .returned (.agg #[.int .i64 r1, .int .i64 r2]) ∧ Below w.heap.size w w' := by
 have hu83 := Try.underlying83
 have hu49 := Try.underlying49
 have HB := Aside0.mk (Below.refl w.heap.size w)
 have H : (some (a0_0, a0_1)) = some (r1, r2) := h
 clear h
 simp only [Option.some.injEq, Prod.mk.injEq] at H
 obtain ⟨rfl, rfl⟩ := H
 go_enter Try.func71, Try.ntmps71
 go_wp2_with (first | ((with_reducible refine gate_dst (N := 1) rfl ?_); refine box_event ?hg (N := 1) ?hd (cs := #[.int .i64 a0_0, .int .i64 a0_1]) (t := 83) ?hr ?_; (case hd => rfl); (case hg => rfl); (case hr => first | (go_simp; done) | (go_simp; rfl)); intro gb231 hg w2 hbox hb; have BK231 := Aside0.mk (hbox); have GW231 := gs_ hg; have GE231 := gs_ hg; replace HB := hbs_ hb; clear hb hbox hg) | ((with_reducible refine gate_dst (N := 2) rfl ?_); refine box_event ?hg (N := 2) ?hd (cs := #[.int .i64 0, .int .i64 0]) (t := 49) ?hr ?_; (case hd => rfl); (case hg => rfl); (case hr => first | (go_simp; done) | (go_simp; rfl)); intro gb232 hg w3 hbox hb; have BK232 := Aside0.mk (hbox); have GW232 := gs_ hg; have GE232 := gs_ hg; replace HB := hbs_ hb; have NB231_232 := nl_ hg BK231; have NB232_231 := nr_ hg BK231; replace BK231 := bkb_ BK231 hb; clear hb hbox hg) | ((with_reducible refine gate_dst (N := 3) rfl ?_); refine box_event ?hg (N := 3) ?hd (cs := #[.int .i64 0, .int .i64 0]) (t := 49) ?hr ?_; (case hd => rfl); (case hg => rfl); (case hr => first | (go_simp; done) | (go_simp; rfl)); intro gb233 hg w4 hbox hb; have BK233 := Aside0.mk (hbox); have GW233 := gs_ hg; have GE233 := gs_ hg; replace HB := hbs_ hb; have NB231_233 := nl_ hg BK231; have NB233_231 := nr_ hg BK231; replace BK231 := bkb_ BK231 hb; have NB232_233 := nl_ hg BK232; have NB233_232 := nr_ hg BK232; replace BK232 := bkb_ BK232 hb; clear hb hbox hg; have hnb5 := NB231_232.out; have hnc5 := NB232_231.out; have hnb6 := NB231_233.out; have hnc6 := NB233_231.out; have hcz7 := blk_cell BK231.out; have hfz7 := blk_frozen BK231.out; have hnb8 := NB233_232.out; have hnc8 := NB232_233.out; have hcz9 := blk_cell BK233.out; have hfz9 := blk_frozen BK233.out; have hcz10 := blk_cell BK232.out; have hfz10 := blk_frozen BK232.out))
 refine bodyPost_ret (results_cell_row rfl _ _ gb232 49 #[.int .i64 a0_0, .int .i64 a0_1] (0, 0) _ rfl (bk_ BK232) Try.underlying49 rfl (by kernel_rfl)) rfl ?_
 exact ⟨eq_, bl_⟩
def laws_toCred.f (a0_0 : Int) (a0_1 : Int) (a0_2 : Int) (a0_3 : Int) (a0_4 : Int) (a0_5 : Int) (a0_6 : Int) (a0_7 : Int) (a0_8 : Int) (a0_9 : Int) : Option (Int × Int × Int × Int × Int × Int × Int × Int × Int × Int) := (laws_toRole.f a0_1 a0_2).bind fun bt237 => ((laws_toRole.f a0_4 a0_5).bind fun bt239 => ((laws_toRole.f a0_6 a0_7).bind fun bt241 => (some (a0_0, bt237.1, bt237.2, a0_3, bt239.1, bt239.2, bt241.1, bt241.2, a0_8, a0_9))))
set_option maxHeartbeats 8000000 in
set_option maxRecDepth 100000 in
theorem laws_toCred.calls (a0_0 : Int) (a0_1 : Int) (a0_2 : Int) (a0_3 : Int) (a0_4 : Int) (a0_5 : Int) (a0_6 : Int) (a0_7 : Int) (a0_8 : Int) (a0_9 : Int) (r1 : Int) (r2 : Int) (r3 : Int) (r4 : Int) (r5 : Int) (r6 : Int) (r7 : Int) (r8 : Int) (r9 : Int) (r10 : Int) (w : World) (h : laws_toCred.f a0_0 a0_1 a0_2 a0_3 a0_4 a0_5 a0_6 a0_7 a0_8 a0_9 = some (r1, r2, r3, r4, r5, r6, r7, r8, r9, r10)) :
  Calls Try.prog 89 #[.agg #[.int .i64 a0_0, .int .i64 a0_1, .int .i64 a0_2, .int .i64 a0_3, .int .i64 a0_4, .int .i64 a0_5, .int .i64 a0_6, .int .i64 a0_7, .int .i64 a0_8, .int .i64 a0_9]] w fun e w' => e = .returned (.agg #[.int .i64 r1, .int .i64 r2, .int .i64 r3, .int .i64 r4, .int .i64 r5, .int .i64 r6, .int .i64 r7, .int .i64 r8, .int .i64 r9, .int .i64 r10]) ∧ Below w.heap.size w w' := by
 have hu118 := Try.underlying118
 have hu56 := Try.underlying56
 have hu83 := Try.underlying83
 have hu49 := Try.underlying49
 have HB := Aside0.mk (Below.refl w.heap.size w)
 have H : ((laws_toRole.f a0_1 a0_2).bind fun bt237 => ((laws_toRole.f a0_4 a0_5).bind fun bt239 => ((laws_toRole.f a0_6 a0_7).bind fun bt241 => (some (a0_0, bt237.1, bt237.2, a0_3, bt239.1, bt239.2, bt241.1, bt241.2, a0_8, a0_9))))) = some (r1, r2, r3, r4, r5, r6, r7, r8, r9, r10) := h
 clear h
 obtain ⟨⟨t237, t238⟩, A2, H⟩ := bindE_ H
 replace H : ((laws_toRole.f a0_4 a0_5).bind fun bt239 => ((laws_toRole.f a0_6 a0_7).bind fun bt241 => (some (a0_0, t237, t238, a0_3, bt239.1, bt239.2, bt241.1, bt241.2, a0_8, a0_9)))) = some (r1, r2, r3, r4, r5, r6, r7, r8, r9, r10) := H
 obtain ⟨⟨t239, t240⟩, A3, H⟩ := bindE_ H
 replace H : ((laws_toRole.f a0_6 a0_7).bind fun bt241 => (some (a0_0, t237, t238, a0_3, t239, t240, bt241.1, bt241.2, a0_8, a0_9))) = some (r1, r2, r3, r4, r5, r6, r7, r8, r9, r10) := H
 obtain ⟨⟨t241, t242⟩, A4, H⟩ := bindE_ H
 replace H : (some (a0_0, t237, t238, a0_3, t239, t240, t241, t242, a0_8, a0_9)) = some (r1, r2, r3, r4, r5, r6, r7, r8, r9, r10) := H
 simp only [Option.some.injEq, Prod.mk.injEq] at H
 obtain ⟨rfl, rfl, rfl, rfl, rfl, rfl, rfl, rfl, rfl, rfl⟩ := H
 go_enter Try.func89, Try.ntmps89
 go_wp2_with (first | ((with_reducible refine gate_dst (N := 1) rfl ?_); refine box_event ?hg (N := 1) ?hd (cs := #[.int .i64 a0_0, .int .i64 a0_1, .int .i64 a0_2, .int .i64 a0_3, .int .i64 a0_4, .int .i64 a0_5, .int .i64 a0_6, .int .i64 a0_7, .int .i64 a0_8, .int .i64 a0_9]) (t := 118) ?hr ?_; (case hd => rfl); (case hg => rfl); (case hr => first | (go_simp; done) | (go_simp; rfl)); intro gb234 hg w5 hbox hb; have BK234 := Aside0.mk (hbox); have GW234 := gs_ hg; have GE234 := gs_ hg; replace HB := hbs_ hb; clear hb hbox hg) | ((with_reducible refine gate_dst (N := 2) rfl ?_); refine box_event ?hg (N := 2) ?hd (cs := #[.int .i64 0, .int .i64 0, .int .i64 0, .int .i64 0, .int .i64 0, .int .i64 0, .int .i64 0, .int .i64 0, .int .i64 0, .int .i64 0]) (t := 56) ?hr ?_; (case hd => rfl); (case hg => rfl); (case hr => first | (go_simp; done) | (go_simp; rfl)); intro gb235 hg w6 hbox hb; have BK235 := Aside0.mk (hbox); have GW235 := gs_ hg; have GE235 := gs_ hg; replace HB := hbs_ hb; have NB234_235 := nl_ hg BK234; have NB235_234 := nr_ hg BK234; replace BK234 := bkb_ BK234 hb; clear hb hbox hg) | ((with_reducible refine gate_dst (N := 3) rfl ?_); refine box_event ?hg (N := 3) ?hd (cs := #[.int .i64 0, .int .i64 0, .int .i64 0, .int .i64 0, .int .i64 0, .int .i64 0, .int .i64 0, .int .i64 0, .int .i64 0, .int .i64 0]) (t := 56) ?hr ?_; (case hd => rfl); (case hg => rfl); (case hr => first | (go_simp; done) | (go_simp; rfl)); intro gb236 hg w7 hbox hb; have BK236 := Aside0.mk (hbox); have GW236 := gs_ hg; have GE236 := gs_ hg; replace HB := hbs_ hb; have NB234_236 := nl_ hg BK234; have NB236_234 := nr_ hg BK234; replace BK234 := bkb_ BK234 hb; have NB235_236 := nl_ hg BK235; have NB236_235 := nr_ hg BK235; replace BK235 := bkb_ BK235 hb; clear hb hbox hg; have hnb8 := NB234_235.out; have hnc8 := NB235_234.out; have hnb9 := NB234_236.out; have hnc9 := NB236_234.out; have hcz10 := blk_cell BK234.out; have hfz10 := blk_frozen BK234.out; have hnb11 := NB236_235.out; have hnc11 := NB235_236.out; have hcz12 := blk_cell BK236.out; have hfz12 := blk_frozen BK236.out) | ((with_reducible refine gate_callee (f := 71) rfl ?_); refine goesC_ (some 9) Try.func71 #[.agg #[.int .i64 a0_1, .int .i64 a0_2]] ?_; (with_reducible refine (laws_toRole.calls a0_1 a0_2 t237 t238 _ A2.out).mono ?_); rintro e w13 ⟨rfl, hb⟩; refine ⟨_, rfl, ?_⟩; replace BK234 := Aside0.mk (blk_below (g := gb234) (o := .cells #[.int .i64 a0_0, .int .i64 a0_1, .int .i64 a0_2, .int .i64 a0_3, .int .i64 a0_4, .int .i64 a0_5, .int .i64 a0_6, .int .i64 a0_7, .int .i64 a0_8, .int .i64 a0_9] 118 (0, 0)) (bk_ BK234) hb); replace BK235 := Aside0.mk (blk_below (g := gb235) (o := .cells #[.int .i64 0, .int .i64 0, .int .i64 0, .int .i64 0, .int .i64 0, .int .i64 0, .int .i64 0, .int .i64 0, .int .i64 0, .int .i64 0] 56 (0, 0)) (bk_ BK235) hb); replace BK236 := Aside0.mk (blk_below (g := gb236) (o := .cells #[.int .i64 a0_0, .int .i64 0, .int .i64 0, .int .i64 0, .int .i64 0, .int .i64 0, .int .i64 0, .int .i64 0, .int .i64 0, .int .i64 0] 56 (0, 0)) (bk_ BK236) hb); replace HB := hbs_ hb; clear hb; have hcz14 := blk_cell BK236.out; have hfz14 := blk_frozen BK236.out; have hcz15 := blk_cell BK234.out; have hfz15 := blk_frozen BK234.out) | ((with_reducible refine gate_callee (f := 71) rfl ?_); refine goesC_ (some 16) Try.func71 #[.agg #[.int .i64 a0_4, .int .i64 a0_5]] ?_; (with_reducible refine (laws_toRole.calls a0_4 a0_5 t239 t240 _ A3.out).mono ?_); rintro e w16 ⟨rfl, hb⟩; refine ⟨_, rfl, ?_⟩; replace BK234 := Aside0.mk (blk_below (g := gb234) (o := .cells #[.int .i64 a0_0, .int .i64 a0_1, .int .i64 a0_2, .int .i64 a0_3, .int .i64 a0_4, .int .i64 a0_5, .int .i64 a0_6, .int .i64 a0_7, .int .i64 a0_8, .int .i64 a0_9] 118 (0, 0)) (bk_ BK234) hb); replace BK235 := Aside0.mk (blk_below (g := gb235) (o := .cells #[.int .i64 0, .int .i64 0, .int .i64 0, .int .i64 0, .int .i64 0, .int .i64 0, .int .i64 0, .int .i64 0, .int .i64 0, .int .i64 0] 56 (0, 0)) (bk_ BK235) hb); replace BK236 := Aside0.mk (blk_below (g := gb236) (o := .cells #[.int .i64 a0_0, .int .i64 t237, .int .i64 t238, .int .i64 a0_3, .int .i64 0, .int .i64 0, .int .i64 0, .int .i64 0, .int .i64 0, .int .i64 0] 56 (0, 0)) (bk_ BK236) hb); replace HB := hbs_ hb; clear hb; have hcz17 := blk_cell BK236.out; have hfz17 := blk_frozen BK236.out; have hcz18 := blk_cell BK234.out; have hfz18 := blk_frozen BK234.out) | ((with_reducible refine gate_callee (f := 71) rfl ?_); refine goesC_ (some 20) Try.func71 #[.agg #[.int .i64 a0_6, .int .i64 a0_7]] ?_; (with_reducible refine (laws_toRole.calls a0_6 a0_7 t241 t242 _ A4.out).mono ?_); rintro e w19 ⟨rfl, hb⟩; refine ⟨_, rfl, ?_⟩; replace BK234 := Aside0.mk (blk_below (g := gb234) (o := .cells #[.int .i64 a0_0, .int .i64 a0_1, .int .i64 a0_2, .int .i64 a0_3, .int .i64 a0_4, .int .i64 a0_5, .int .i64 a0_6, .int .i64 a0_7, .int .i64 a0_8, .int .i64 a0_9] 118 (0, 0)) (bk_ BK234) hb); replace BK235 := Aside0.mk (blk_below (g := gb235) (o := .cells #[.int .i64 0, .int .i64 0, .int .i64 0, .int .i64 0, .int .i64 0, .int .i64 0, .int .i64 0, .int .i64 0, .int .i64 0, .int .i64 0] 56 (0, 0)) (bk_ BK235) hb); replace BK236 := Aside0.mk (blk_below (g := gb236) (o := .cells #[.int .i64 a0_0, .int .i64 t237, .int .i64 t238, .int .i64 a0_3, .int .i64 t239, .int .i64 t240, .int .i64 0, .int .i64 0, .int .i64 0, .int .i64 0] 56 (0, 0)) (bk_ BK236) hb); replace HB := hbs_ hb; clear hb; have hcz20 := blk_cell BK236.out; have hfz20 := blk_frozen BK236.out; have hcz21 := blk_cell BK234.out; have hfz21 := blk_frozen BK234.out; have hcz22 := blk_cell BK235.out; have hfz22 := blk_frozen BK235.out))
 refine bodyPost_ret (results_cell_row rfl _ _ gb235 56 #[.int .i64 a0_0, .int .i64 t237, .int .i64 t238, .int .i64 a0_3, .int .i64 t239, .int .i64 t240, .int .i64 t241, .int .i64 t242, .int .i64 a0_8, .int .i64 a0_9] (0, 0) _ rfl (bk_ BK235) Try.underlying56 rfl (by kernel_rfl)) rfl ?_
 exact ⟨eq_, bl_⟩
def laws_toCredS.l0 : Nat → List (S118) → List (S56) → Int → Option ((List (S56)))
 | 0, _, _, _ => none
 | k + 1, x0, x3, x4 => if x4 < (x0.length : Int) then (if 0 ≤ x4 then ((laws_toCred.f ((rd_T118 x0 x4).f0) ((rd_T118 x0 x4).f1.f0) ((rd_T118 x0 x4).f1.f1) ((rd_T118 x0 x4).f2) ((rd_T118 x0 x4).f3.f0) ((rd_T118 x0 x4).f3.f1) ((rd_T118 x0 x4).f4.f0) ((rd_T118 x0 x4).f4.f1) ((rd_T118 x0 x4).f5) ((rd_T118 x0 x4).f6)).bind fun bt247 => (if x4 < (x3.length : Int) then (laws_toCredS.l0 k x0 (x3.set (x4 : Int).toNat (⟨bt247.1, (⟨bt247.2.1, bt247.2.2.1⟩ : S49), bt247.2.2.2.1, (⟨bt247.2.2.2.2.1, bt247.2.2.2.2.2.1⟩ : S49), (⟨bt247.2.2.2.2.2.2.1, bt247.2.2.2.2.2.2.2.1⟩ : S49), bt247.2.2.2.2.2.2.2.2.1, bt247.2.2.2.2.2.2.2.2.2⟩ : S56)) (wrap64 (x4 + 1))) else (none))) else (none)) else (some x3)
def laws_toCredS.f (k : Nat) (l0 : List (S118)) : Option ((List (S56))) := if 0 ≤ (l0.length : Int) then (if ((l0.length : Int) : Int).toNat ≤ 3518437208883 then (laws_toCredS.l0 k l0 (List.replicate ((l0.length : Int) : Int).toNat z56) 0) else (none)) else (none)
set_option maxHeartbeats 8000000 in
set_option maxRecDepth 100000 in
theorem laws_toCredS.calls (k : Nat) (A0 : Option Addr) (c0 : Nat) (l0 : List (S118)) (r : List (S56)) (w : World) (hr0 : Kd.C k118 w A0 l0.length l0) (hc0 : l0.length ≤ c0) (h : laws_toCredS.f k l0 = some r) :
  Calls Try.prog 22 #[.slice A0 l0.length c0] w fun e w' => ∃ v0_ : Value, e = .returned (v0_) ∧ Kd.R k56 56 w' w.heap.size (fun _ => True) v0_ r ∧ Below w.heap.size w w' := by
 have hu118 := Try.underlying118
 have hu56 := Try.underlying56
 have HR0 := Aside0.mk hr0
 have HC0 := Aside0.mk hc0
 clear hr0 hc0
 have HB := Aside0.mk (Below.refl w.heap.size w)
 have H : (if 0 ≤ (l0.length : Int) then (if ((l0.length : Int) : Int).toNat ≤ 3518437208883 then (laws_toCredS.l0 k l0 (List.replicate ((l0.length : Int) : Int).toNat z56) 0) else (none)) else (none)) = some r := h
 clear h
 obtain ⟨c2, H⟩ := ifn_ H
 have c2b0 := eq_true c2
 have c2b1 : decide (0 ≤ (l0.length : Int)) = true := decide_eq_true c2
 clear c2
 obtain ⟨c3, H⟩ := ifn_ H
 have c3b0 := eq_true c3
 have c3b1 : decide (((l0.length : Int) : Int).toNat ≤ 3518437208883) = true := decide_eq_true c3
 clear c3
 obtain ⟨y243, hy243⟩ : ∃ y_ : List (S56), y_ = (List.replicate ((l0.length : Int) : Int).toNat z56) := ⟨_, rfl⟩
 replace H : (laws_toCredS.l0 k l0 y243 0) = some r := by first | (rw [hy243]; with_reducible exact H) | (have H2_ := (Option.bind_some _ _).symm.trans H; rw [hy243]; with_reducible exact H2_) | (have H2_ := (Option.bind_some _ _).symm.trans H; with_reducible exact H2_) | with_reducible exact H | (rw [hy243]; exact H) | exact H
 have Ny243 := Aside0.mk hy243
 clear hy243
 have H' := Aside0.mk H
 clear H
 go_enter Try.func22, Try.ntmps22
 go_wp2_with (first | ((with_reducible refine gate_dst (N := 7) rfl ?_); refine Kd.R_make k56 _ 56 rfl (N := 7) rfl 32 _ _ rfl (l0.length : Int) rfl rfl Try.underlying32 (.agg #[(.int .i64 0), (.int .i64 0), (.int .i64 0), (.int .i64 0), (.int .i64 0), (.int .i64 0), (.int .i64 0), (.int .i64 0), (.int .i64 0), (.int .i64 0)]) 80 info56 rfl (by decide) (by omega) z56 (ok := fun _ => True) (okp := fun _ => True) (k56_mkM _ _ _ z56 ) (fun _ hk => hk) trivial (od_) (Nat.le_trans (Nat.mul_le_mul_right _ (od_ : (l0.length : Int).toNat ≤ 3518437208883)) (by omega)) (Below.refl _ _) (Nat.le_refl _) ?_; intro v244 w4 ho5 hb hg_ hnew_; clear hg_ hnew_; (first | rw [← Ny243.out] at ho5 | (simp only [Int.reduceToNat] at ho5; rw [← Ny243.out] at ho5)); have HO245 := Aside0.mk (Kd.R_lower ho5 bls_); replace HB := hbs_ hb; clear hb ho5))
 go_loopg [4] k (fun kq v4 w' => ∃ (x3_1 : List (S56)) (x4_1 : Int), v4 = .int .i64 x4_1 ∧ Aside0 (laws_toCredS.l0 kq l0 x3_1 x4_1 = some r) ∧ Aside0 (kq ≤ k) ∧ Aside0 (Kd.R k56 56 w' w.heap.size (fun _ => True) v244 x3_1) ∧ Aside0 (Below w.heap.size w w'))
 case atStart => exact ⟨(y243), (0), rf_, H', ⟨Nat.le_refl _⟩, ⟨by (with_reducible repeat (first | apply Kd.R_alloc | apply Kd.R_drewN | apply Kd.R_drew)); exact HO245.out⟩, ⟨bl_⟩⟩
 case round =>
  clear H'
  try clear c2
  try clear c2b0
  try clear c2b1
  try clear p2
  try clear c3
  try clear c3b0
  try clear c3b1
  obtain ⟨x3_1, x4_1, rfl, HA, HK1, HO_3, HB⟩ := hrel
  cases gk with
  | zero => exact absurd HA.out (by simp [laws_toCredS.l0])
  | succ k1 =>
   have H := HA.out
   clear HA
   simp only [laws_toCredS.l0] at H
   by_cases c6 : x4_1 < (l0.length : Int)
   ·rw [if_pos c6] at H
    have c6b0 : decide (x4_1 < (l0.length : Int)) = true := decide_eq_true c6
    clear c6
    obtain ⟨c7b0, H⟩ := ifd_ H
    obtain ⟨⟨t247, t248, t249, t250, t251, t252, t253, t254, t255, t256⟩, A8, H⟩ := bindE_ H
    replace H : (if x4_1 < (x3_1.length : Int) then (laws_toCredS.l0 k1 l0 (x3_1.set (x4_1 : Int).toNat (⟨t247, (⟨t248, t249⟩ : S49), t250, (⟨t251, t252⟩ : S49), (⟨t253, t254⟩ : S49), t255, t256⟩ : S56)) (wrap64 (x4_1 + 1))) else (none)) = some r := H
    obtain ⟨c9b0, H⟩ := ifd_ H
    obtain ⟨y257, hy257⟩ : ∃ y_ : List (S56), y_ = (x3_1.set (x4_1 : Int).toNat (⟨t247, (⟨t248, t249⟩ : S49), t250, (⟨t251, t252⟩ : S49), (⟨t253, t254⟩ : S49), t255, t256⟩ : S56)) := ⟨_, rfl⟩
    replace H : (laws_toCredS.l0 k1 l0 y257 (wrap64 (x4_1 + 1))) = some r := by first | (rw [hy257]; with_reducible exact H) | (have H2_ := (Option.bind_some _ _).symm.trans H; rw [hy257]; with_reducible exact H2_) | (have H2_ := (Option.bind_some _ _).symm.trans H; with_reducible exact H2_) | with_reducible exact H | (rw [hy257]; exact H) | exact H
    have Ny257 := Aside0.mk hy257
    clear hy257
    have H' := Aside0.mk H
    clear H
    have p246 : 0 ≤ (x4_1 : Int) := od_
    have q246 : x4_1 < (l0.length : Int) := od_
    obtain ⟨ad246, e246, hx246_0, hx246_1, hx246_2, hx246_3, hx246_4, hx246_5, hx246_6, hx246_7, hx246_8, hx246_9⟩ := at_T118 (Kd.C_below HR0.out HB.out) x4_1 p246 q246
    cases e246
    replace p246 := eq_true p246
    replace q246 := eq_true q246
    go_wp2_with (first | ((with_reducible refine gate_callee (f := 89) rfl ?_); refine goesC_ (some 20) Try.func89 #[.agg #[.int .i64 ((rd_T118 l0 x4_1).f0), .int .i64 ((rd_T118 l0 x4_1).f1.f0), .int .i64 ((rd_T118 l0 x4_1).f1.f1), .int .i64 ((rd_T118 l0 x4_1).f2), .int .i64 ((rd_T118 l0 x4_1).f3.f0), .int .i64 ((rd_T118 l0 x4_1).f3.f1), .int .i64 ((rd_T118 l0 x4_1).f4.f0), .int .i64 ((rd_T118 l0 x4_1).f4.f1), .int .i64 ((rd_T118 l0 x4_1).f5), .int .i64 ((rd_T118 l0 x4_1).f6)]] ?_; (with_reducible refine (laws_toCred.calls ((rd_T118 l0 x4_1).f0) ((rd_T118 l0 x4_1).f1.f0) ((rd_T118 l0 x4_1).f1.f1) ((rd_T118 l0 x4_1).f2) ((rd_T118 l0 x4_1).f3.f0) ((rd_T118 l0 x4_1).f3.f1) ((rd_T118 l0 x4_1).f4.f0) ((rd_T118 l0 x4_1).f4.f1) ((rd_T118 l0 x4_1).f5) ((rd_T118 l0 x4_1).f6) t247 t248 t249 t250 t251 t252 t253 t254 t255 t256 _ A8.out).mono ?_); rintro e w11 ⟨rfl, hb⟩; refine ⟨_, rfl, ?_⟩; replace HO_3 := hob_ HO_3 hb; replace HB := hbs_ hb; clear hb; have p10 : 0 ≤ (x4_1 : Int) := od_; have q10 : (x4_1 : Int) < ((x3_1.length : Int) : Int) := od_; obtain ⟨go10, co10, eo10, gb10, gl10, cl10, HG10⟩ := Kd.R_form HO_3.out (by omega); (first | cases eo10 | (injection eo10 with ea_ en_ ec_; (first | subst ea_ | (injection ea_ with ea_; subst ea_)); subst ec_; clear en_)); have GB10 := Aside0.mk gb10; have GG10 := Aside0.mk HG10; clear gb10 gl10 HG10; obtain ⟨ce10, hcl10, hM10, hcc10, hfr10⟩ := Kd.R_elem HO_3.out z56 (x4_1 : Int) p10 q10; obtain rfl := k56_openM hM10; have hx10_0 : w11.cell? ⟨go10, (x4_1 : Int).toNat * 10, none⟩ = some (.int .i64 ((rd_T56 x3_1 x4_1).f0)) := hcc10 0 _ rfl; have hx10_1 : w11.cell? ⟨go10, (x4_1 : Int).toNat * 10 + 1, none⟩ = some (.int .i64 ((rd_T56 x3_1 x4_1).f1.f0)) := hcc10 1 _ rfl; have hx10_2 : w11.cell? ⟨go10, (x4_1 : Int).toNat * 10 + 2, none⟩ = some (.int .i64 ((rd_T56 x3_1 x4_1).f1.f1)) := hcc10 2 _ rfl; have hx10_3 : w11.cell? ⟨go10, (x4_1 : Int).toNat * 10 + 3, none⟩ = some (.int .i64 ((rd_T56 x3_1 x4_1).f2)) := hcc10 3 _ rfl; have hx10_4 : w11.cell? ⟨go10, (x4_1 : Int).toNat * 10 + 4, none⟩ = some (.int .i64 ((rd_T56 x3_1 x4_1).f3.f0)) := hcc10 4 _ rfl; have hx10_5 : w11.cell? ⟨go10, (x4_1 : Int).toNat * 10 + 5, none⟩ = some (.int .i64 ((rd_T56 x3_1 x4_1).f3.f1)) := hcc10 5 _ rfl; have hx10_6 : w11.cell? ⟨go10, (x4_1 : Int).toNat * 10 + 6, none⟩ = some (.int .i64 ((rd_T56 x3_1 x4_1).f4.f0)) := hcc10 6 _ rfl; have hx10_7 : w11.cell? ⟨go10, (x4_1 : Int).toNat * 10 + 7, none⟩ = some (.int .i64 ((rd_T56 x3_1 x4_1).f4.f1)) := hcc10 7 _ rfl; have hx10_8 : w11.cell? ⟨go10, (x4_1 : Int).toNat * 10 + 8, none⟩ = some (.int .i64 ((rd_T56 x3_1 x4_1).f5)) := hcc10 8 _ rfl; have hx10_9 : w11.cell? ⟨go10, (x4_1 : Int).toNat * 10 + 9, none⟩ = some (.int .i64 ((rd_T56 x3_1 x4_1).f6)) := hcc10 9 _ rfl; have hf10_0 : w11.frozen? ⟨go10, (x4_1 : Int).toNat * 10, none⟩ = false := hfr10 0; have hf10_1 : w11.frozen? ⟨go10, (x4_1 : Int).toNat * 10 + 1, none⟩ = false := hfr10 1; have hf10_2 : w11.frozen? ⟨go10, (x4_1 : Int).toNat * 10 + 2, none⟩ = false := hfr10 2; have hf10_3 : w11.frozen? ⟨go10, (x4_1 : Int).toNat * 10 + 3, none⟩ = false := hfr10 3; have hf10_4 : w11.frozen? ⟨go10, (x4_1 : Int).toNat * 10 + 4, none⟩ = false := hfr10 4; have hf10_5 : w11.frozen? ⟨go10, (x4_1 : Int).toNat * 10 + 5, none⟩ = false := hfr10 5; have hf10_6 : w11.frozen? ⟨go10, (x4_1 : Int).toNat * 10 + 6, none⟩ = false := hfr10 6; have hf10_7 : w11.frozen? ⟨go10, (x4_1 : Int).toNat * 10 + 7, none⟩ = false := hfr10 7; have hf10_8 : w11.frozen? ⟨go10, (x4_1 : Int).toNat * 10 + 8, none⟩ = false := hfr10 8; have hf10_9 : w11.frozen? ⟨go10, (x4_1 : Int).toNat * 10 + 9, none⟩ = false := hfr10 9; clear hcl10 hcc10 hfr10 hM10; replace p10 := eq_true p10; replace q10 := eq_true q10; have HX12 := Aside0.mk (show Kd.R k56 56 w11 w.heap.size (fun _ => True) (.slice (some ⟨go10, 0, none⟩) x3_1.length co10) x3_1 from (by (with_reducible repeat (first | apply Kd.R_alloc | apply Kd.R_drewN | apply Kd.R_drew)); exact HO_3.out)); obtain ⟨ce12, hcl12, hM12, hcc12, hfr12⟩ := Kd.R_elem HX12.out z56 (x4_1 : Int) (od_) (by have h_ : (x4_1 : Int) < ((x3_1.length : Int) : Int) := od_; first | exact h_ | (have e_ := (Kd.R_reads' HO_3.out).1; omega) | simpa using h_); obtain rfl := k56_openM hM12; have HP12 := Kd.R_seg HX12.out (x4_1 : Int) (od_) (by have h_ : (x4_1 : Int) < ((x3_1.length : Int) : Int) := od_; first | exact h_ | (have e_ := (Kd.R_reads' HO_3.out).1; omega) | simpa using h_) (seg := [.int .i64 t247, .int .i64 t248, .int .i64 t249, .int .i64 t250, .int .i64 t251, .int .i64 t252, .int .i64 t253, .int .i64 t254, .int .i64 t255, .int .i64 t256]) (j := 0) hcl12 hcc12 (show 10 ≤ 10 from by decide) (x' := (⟨t247, (⟨t248, t249⟩ : S49), t250, (⟨t251, t252⟩ : S49), (⟨t253, t254⟩ : S49), t255, t256⟩ : S56)) (k56_mkM _ _ _ (⟨t247, (⟨t248, t249⟩ : S49), t250, (⟨t251, t252⟩ : S49), (⟨t253, t254⟩ : S49), t255, t256⟩ : S56) ) (fun _ hk => hk); have hx12_0 := hcc12 0 _ rfl; (try simp only [show (k56).sz = 10 from rfl, Nat.mul_one, Nat.add_zero] at hx12_0); have hf12_0 := hfr12 0; (try simp only [show (k56).sz = 10 from rfl, Nat.mul_one, Nat.add_zero] at hf12_0); have hx12_1 := hcc12 1 _ rfl; (try simp only [show (k56).sz = 10 from rfl, Nat.mul_one, Nat.add_zero] at hx12_1); have hf12_1 := hfr12 1; (try simp only [show (k56).sz = 10 from rfl, Nat.mul_one, Nat.add_zero] at hf12_1); have hx12_2 := hcc12 2 _ rfl; (try simp only [show (k56).sz = 10 from rfl, Nat.mul_one, Nat.add_zero] at hx12_2); have hf12_2 := hfr12 2; (try simp only [show (k56).sz = 10 from rfl, Nat.mul_one, Nat.add_zero] at hf12_2); have hx12_3 := hcc12 3 _ rfl; (try simp only [show (k56).sz = 10 from rfl, Nat.mul_one, Nat.add_zero] at hx12_3); have hf12_3 := hfr12 3; (try simp only [show (k56).sz = 10 from rfl, Nat.mul_one, Nat.add_zero] at hf12_3); have hx12_4 := hcc12 4 _ rfl; (try simp only [show (k56).sz = 10 from rfl, Nat.mul_one, Nat.add_zero] at hx12_4); have hf12_4 := hfr12 4; (try simp only [show (k56).sz = 10 from rfl, Nat.mul_one, Nat.add_zero] at hf12_4); have hx12_5 := hcc12 5 _ rfl; (try simp only [show (k56).sz = 10 from rfl, Nat.mul_one, Nat.add_zero] at hx12_5); have hf12_5 := hfr12 5; (try simp only [show (k56).sz = 10 from rfl, Nat.mul_one, Nat.add_zero] at hf12_5); have hx12_6 := hcc12 6 _ rfl; (try simp only [show (k56).sz = 10 from rfl, Nat.mul_one, Nat.add_zero] at hx12_6); have hf12_6 := hfr12 6; (try simp only [show (k56).sz = 10 from rfl, Nat.mul_one, Nat.add_zero] at hf12_6); have hx12_7 := hcc12 7 _ rfl; (try simp only [show (k56).sz = 10 from rfl, Nat.mul_one, Nat.add_zero] at hx12_7); have hf12_7 := hfr12 7; (try simp only [show (k56).sz = 10 from rfl, Nat.mul_one, Nat.add_zero] at hf12_7); have hx12_8 := hcc12 8 _ rfl; (try simp only [show (k56).sz = 10 from rfl, Nat.mul_one, Nat.add_zero] at hx12_8); have hf12_8 := hfr12 8; (try simp only [show (k56).sz = 10 from rfl, Nat.mul_one, Nat.add_zero] at hf12_8); have hx12_9 := hcc12 9 _ rfl; (try simp only [show (k56).sz = 10 from rfl, Nat.mul_one, Nat.add_zero] at hx12_9); have hf12_9 := hfr12 9; (try simp only [show (k56).sz = 10 from rfl, Nat.mul_one, Nat.add_zero] at hf12_9); clear hcl12 hcc12 hfr12 hM12) | ((with_reducible refine gate_store (t := 56) (p := 21) rfl ?_); refine store_event (t := 56) (p := 21) (v := ?vo_w13) (w1 := ((((((((((w11.setCell ⟨go10, (x4_1 : Int).toNat * 10, none⟩ (.int .i64 t247)).setCell ⟨go10, (x4_1 : Int).toNat * 10 + 1, none⟩ (.int .i64 t248)).setCell ⟨go10, (x4_1 : Int).toNat * 10 + 2, none⟩ (.int .i64 t249)).setCell ⟨go10, (x4_1 : Int).toNat * 10 + 3, none⟩ (.int .i64 t250)).setCell ⟨go10, (x4_1 : Int).toNat * 10 + 4, none⟩ (.int .i64 t251)).setCell ⟨go10, (x4_1 : Int).toNat * 10 + 5, none⟩ (.int .i64 t252)).setCell ⟨go10, (x4_1 : Int).toNat * 10 + 6, none⟩ (.int .i64 t253)).setCell ⟨go10, (x4_1 : Int).toNat * 10 + 7, none⟩ (.int .i64 t254)).setCell ⟨go10, (x4_1 : Int).toNat * 10 + 8, none⟩ (.int .i64 t255)).setCell ⟨go10, (x4_1 : Int).toNat * 10 + 9, none⟩ (.int .i64 t256))) ?hg ?ho ?hn ?hr ?_; (case ho => rfl); (case hg => rfl); (case hn => rfl); (case hr => first | (go_simp; done) | (go_simp; rfl)); intro w13 hw; have hg : w11.grownBy w13 (some go10) := (by rw [hw]; exact HP12.2); have hp_ : Kd.R k56 56 w13 w.heap.size (fun _ => True) (.slice (some ⟨go10, 0, none⟩) x3_1.length co10) y257 := (by rw [hw, Ny257.out]; exact HP12.1); clear HP12; replace HO_3 := Aside0.mk (hp_); replace HB := Aside0.mk ((by rw [hw]; exact below_set (below_set (below_set (below_set (below_set (below_set (below_set (below_set (below_set (below_set (HB.out) GB10.out) GB10.out) GB10.out) GB10.out) GB10.out) GB10.out) GB10.out) GB10.out) GB10.out) GB10.out : Below w.heap.size w w13)); clear hg hw hp_))
    go_roundg k1
    case measure => have := HK1.out; omega
    case rel => exact ⟨(y257), (wrap64 (x4_1 + 1)), rf_, H', ⟨by have := HK1.out; omega⟩, ⟨by (with_reducible repeat (first | apply Kd.R_alloc | apply Kd.R_drewN | apply Kd.R_drew)); exact HO_3.out⟩, ⟨bl_⟩⟩
   ·rw [if_neg c6] at H
    have c6b0 : decide (x4_1 < (l0.length : Int)) = false := decide_eq_false c6
    clear c6
    obtain rfl := Option.some.inj H
    go_wp2
    go_ret
    exact ⟨_, eq_, by (with_reducible repeat (first | apply Kd.R_alloc | apply Kd.R_drewN | apply Kd.R_drew)); exact HO_3.out, bl_⟩
def impl_in.f (a0 : Int) (a1 : Int) (a2 : Int) : Option (Bool) := if a0 ≥ a1 then (some (decide (a0 ≤ a2))) else (some false)
set_option maxHeartbeats 8000000 in
set_option maxRecDepth 100000 in
theorem impl_in.calls (a0 : Int) (a1 : Int) (a2 : Int) (r : Bool) (w : World) (h : impl_in.f a0 a1 a2 = some r) :
  Calls Try.prog 121 #[.int .i64 a0, .int .i64 a1, .int .i64 a2] w fun e w' => e = .returned (.bool r) ∧ Drawn0 w w' := by
 have H : (if a0 ≥ a1 then (some (decide (a0 ≤ a2))) else (some false)) = some r := h
 clear h
 by_cases c4 : a0 ≥ a1
 ·rw [if_pos c4] at H
  have c4b0 : decide (a1 ≤ a0) = true := decide_eq_true c4
  clear c4
  obtain rfl := Option.some.inj H
  go_enter Try.func121, Try.ntmps121
  go_wp2
  go_ret
  exact ⟨by first | rfl | (simp; done) | (simp [*]; done), by repeat (first | exact Drawn0.refl _ | apply Drawn0.step)⟩
 ·rw [if_neg c4] at H
  have c4b0 : decide (a1 ≤ a0) = false := decide_eq_false c4
  clear c4
  obtain rfl := Option.some.inj H
  go_enter Try.func121, Try.ntmps121
  go_wp2
  go_ret
  exact ⟨by first | rfl | (simp; done) | (simp [*]; done), by repeat (first | exact Drawn0.refl _ | apply Drawn0.step)⟩
def impl_RoleOk.f (a0_0 : Int) (a0_1 : Int) : Option (Bool) := (impl_in.f a0_0 0 5).bind fun t259 => (if t259 = true then ((impl_in.f a0_1 0 3).bind fun t260 => (some t260)) else (some false))
set_option maxHeartbeats 8000000 in
set_option maxRecDepth 100000 in
theorem impl_RoleOk.calls (a0_0 : Int) (a0_1 : Int) (r : Bool) (w : World) (h : impl_RoleOk.f a0_0 a0_1 = some r) :
  Calls Try.prog 122 #[.agg #[.int .i64 a0_0, .int .i64 a0_1]] w fun e w' => e = .returned (.bool r) ∧ Below w.heap.size w w' := by
 have hu49 := Try.underlying49
 have HB := Aside0.mk (Below.refl w.heap.size w)
 have H : ((impl_in.f a0_0 0 5).bind fun t259 => (if t259 = true then ((impl_in.f a0_1 0 3).bind fun t260 => (some t260)) else (some false))) = some r := h
 clear h
 obtain ⟨t259, A2, H⟩ := bindE_ H
 by_cases c3 : t259 = true
 ·subst c3
  replace H := ite_t_ H
  obtain ⟨t260, A4, H⟩ := bindE_ H
  obtain rfl := Option.some.inj H
  go_enter Try.func122, Try.ntmps122
  go_wp2_with (first | ((with_reducible refine gate_dst (N := 1) rfl ?_); refine box_event ?hg (N := 1) ?hd (cs := #[.int .i64 a0_0, .int .i64 a0_1]) (t := 49) ?hr ?_; (case hd => rfl); (case hg => rfl); (case hr => first | (go_simp; done) | (go_simp; rfl)); intro gb258 hg w5 hbox hb; have BK258 := Aside0.mk (hbox); have GW258 := gs_ hg; have GE258 := gs_ hg; replace HB := hbs_ hb; clear hb hbox hg; have hcz6 := blk_cell BK258.out; have hfz6 := blk_frozen BK258.out) | ((with_reducible refine gate_callee (f := 121) rfl ?_); refine goesC_ (some 5) Try.func121 #[.int .i64 a0_0, .int .i64 0, .int .i64 5] ?_; (with_reducible refine (impl_in.calls a0_0 0 5 true _ A2.out).mono ?_); rintro e w' ⟨rfl, ⟨nd, rfl⟩⟩; refine ⟨_, rfl, ?_⟩) | (go_at_call 121; (with_reducible refine (impl_in.calls a0_1 0 3 t260 _ A4.out).mono ?_); rintro e w' ⟨rfl, ⟨nd, rfl⟩⟩))
  go_ret
  exact ⟨eq_, bl_⟩
 ·replace c3 := Bool.eq_false_iff.mpr c3
  subst c3
  replace H := ite_f_ H
  obtain rfl := Option.some.inj H
  go_enter Try.func122, Try.ntmps122
  go_wp2_with (first | ((with_reducible refine gate_dst (N := 1) rfl ?_); refine box_event ?hg (N := 1) ?hd (cs := #[.int .i64 a0_0, .int .i64 a0_1]) (t := 49) ?hr ?_; (case hd => rfl); (case hg => rfl); (case hr => first | (go_simp; done) | (go_simp; rfl)); intro gb258 hg w7 hbox hb; have BK258 := Aside0.mk (hbox); have GW258 := gs_ hg; have GE258 := gs_ hg; replace HB := hbs_ hb; clear hb hbox hg; have hcz8 := blk_cell BK258.out; have hfz8 := blk_frozen BK258.out) | ((with_reducible refine gate_callee (f := 121) rfl ?_); refine goesC_ (some 5) Try.func121 #[.int .i64 a0_0, .int .i64 0, .int .i64 5] ?_; (with_reducible refine (impl_in.calls a0_0 0 5 false _ A2.out).mono ?_); rintro e w' ⟨rfl, ⟨nd, rfl⟩⟩; refine ⟨_, rfl, ?_⟩))
  go_ret
  exact ⟨eq_, bl_⟩
def impl_isPerson.f (a0 : Int) : Option (Bool) := (impl_in.f a0 0 5).bind fun t261 => (some t261)
set_option maxHeartbeats 8000000 in
set_option maxRecDepth 100000 in
theorem impl_isPerson.calls (a0 : Int) (r : Bool) (w : World) (h : impl_isPerson.f a0 = some r) :
  Calls Try.prog 171 #[.int .i64 a0] w fun e w' => e = .returned (.bool r) ∧ Drawn0 w w' := by
 have H : ((impl_in.f a0 0 5).bind fun t261 => (some t261)) = some r := h
 clear h
 obtain ⟨t261, A2, H⟩ := bindE_ H
 obtain rfl := Option.some.inj H
 go_enter Try.func171, Try.ntmps171
 go_wp2_with (first | ((with_reducible refine gate_callee (f := 121) rfl ?_); refine goesC_ (some 4) Try.func121 #[.int .i64 a0, .int .i64 0, .int .i64 5] ?_; (with_reducible refine (impl_in.calls a0 0 5 t261 _ A2.out).mono ?_); rintro e w' ⟨rfl, ⟨nd, rfl⟩⟩; refine ⟨_, rfl, ?_⟩))
 go_ret
 exact ⟨by first | rfl | (simp; done) | (simp [*]; done), by repeat (first | exact Drawn0.refl _ | apply Drawn0.step)⟩
def impl_CredOk.j0 : Nat → Bool → Int → Int → Int → Int → Int → Int → Int → Int → Int → Int → Option (Bool)
 | 0, _, _, _, _, _, _, _, _, _, _, _ => none
 | k + 1, x19, x263000, x263001, x263002, x263003, x263004, x263005, x263006, x263007, x263008, x263009 => if x19 = true then (some false) else (if x263000 = 1 then ((impl_isPerson.f x263003).bind fun t267 => (if t267 = true then (if (x263004 == 0 && (x263005 == 0)) = true then (some (x263006 == 0 && (x263007 == 0))) else (some false)) else (some false))) else (if x263000 = 2 then (if x263003 = 0 then ((impl_RoleOk.f x263004 x263005).bind fun t268 => (if t268 = true then (some (x263006 == 0 && (x263007 == 0))) else (some false))) else (some false)) else (if x263000 = 3 then (if x263003 = 0 then ((impl_RoleOk.f x263004 x263005).bind fun t269 => (if t269 = true then ((impl_RoleOk.f x263006 x263007).bind fun t270 => (if t270 = true then (some (x263006 == 0)) else (some false))) else (some false))) else (some false)) else (if x263000 = 4 then (if x263003 = 0 then ((impl_RoleOk.f x263004 x263005).bind fun t271 => (if t271 = true then ((impl_RoleOk.f x263006 x263007).bind fun t272 => (some t272)) else (some false))) else (some false)) else (some false)))))
def impl_CredOk.f (k : Nat) (a0_0 : Int) (a0_1 : Int) (a0_2 : Int) (a0_3 : Int) (a0_4 : Int) (a0_5 : Int) (a0_6 : Int) (a0_7 : Int) (a0_8 : Int) (a0_9 : Int) : Option (Bool) := (impl_RoleOk.f a0_1 a0_2).bind fun t263 => (if t263 = true then ((impl_in.f a0_8 1 9999).bind fun t264 => (if t264 = true then ((impl_in.f a0_9 0 99).bind fun t265 => (impl_CredOk.j0 k (!t265) a0_0 a0_1 a0_2 a0_3 a0_4 a0_5 a0_6 a0_7 a0_8 a0_9)) else (impl_CredOk.j0 k true a0_0 a0_1 a0_2 a0_3 a0_4 a0_5 a0_6 a0_7 a0_8 a0_9))) else (impl_CredOk.j0 k true a0_0 a0_1 a0_2 a0_3 a0_4 a0_5 a0_6 a0_7 a0_8 a0_9))
set_option maxHeartbeats 8000000 in
set_option maxRecDepth 100000 in
theorem impl_CredOk.calls (k : Nat) (a0_0 : Int) (a0_1 : Int) (a0_2 : Int) (a0_3 : Int) (a0_4 : Int) (a0_5 : Int) (a0_6 : Int) (a0_7 : Int) (a0_8 : Int) (a0_9 : Int) (r : Bool) (w : World) (h : impl_CredOk.f k a0_0 a0_1 a0_2 a0_3 a0_4 a0_5 a0_6 a0_7 a0_8 a0_9 = some r) :
  Calls Try.prog 96 #[.agg #[.int .i64 a0_0, .int .i64 a0_1, .int .i64 a0_2, .int .i64 a0_3, .int .i64 a0_4, .int .i64 a0_5, .int .i64 a0_6, .int .i64 a0_7, .int .i64 a0_8, .int .i64 a0_9]] w fun e w' => e = .returned (.bool r) ∧ Below w.heap.size w w' := by
 have hu56 := Try.underlying56
 have hu49 := Try.underlying49
 have HB := Aside0.mk (Below.refl w.heap.size w)
 have H : ((impl_RoleOk.f a0_1 a0_2).bind fun t263 => (if t263 = true then ((impl_in.f a0_8 1 9999).bind fun t264 => (if t264 = true then ((impl_in.f a0_9 0 99).bind fun t265 => (impl_CredOk.j0 k (!t265) a0_0 a0_1 a0_2 a0_3 a0_4 a0_5 a0_6 a0_7 a0_8 a0_9)) else (impl_CredOk.j0 k true a0_0 a0_1 a0_2 a0_3 a0_4 a0_5 a0_6 a0_7 a0_8 a0_9))) else (impl_CredOk.j0 k true a0_0 a0_1 a0_2 a0_3 a0_4 a0_5 a0_6 a0_7 a0_8 a0_9))) = some r := h
 clear h
 have HC2 := Aside0.mk H
 clear H
 go_enter Try.func96, Try.ntmps96
 go_upto_region 1 with (first | ((with_reducible refine gate_dst (N := 1) rfl ?_); refine box_event ?hg (N := 1) ?hd (cs := #[.int .i64 a0_0, .int .i64 a0_1, .int .i64 a0_2, .int .i64 a0_3, .int .i64 a0_4, .int .i64 a0_5, .int .i64 a0_6, .int .i64 a0_7, .int .i64 a0_8, .int .i64 a0_9]) (t := 56) ?hr ?_; (case hd => rfl); (case hg => rfl); (case hr => first | (go_simp; done) | (go_simp; rfl)); intro gb262 hg w3 hbox hb; have BK262 := Aside0.mk (hbox); have GW262 := gs_ hg; have GE262 := gs_ hg; replace HB := hbs_ hb; clear hb hbox hg))
 (try simp only [Act.put, List.setIfInBounds_toArray, List.set_cons_zero, List.set_cons_succ])
 go_cut [19] (fun v19 wc => ∃ (kq : Nat) (x19_1 : Bool), v19 = .bool x19_1 ∧ Aside0 (impl_CredOk.j0 kq x19_1 a0_0 a0_1 a0_2 a0_3 a0_4 a0_5 a0_6 a0_7 a0_8 a0_9 = some r) ∧ Aside0 (kq ≤ k) ∧ Aside0 (wc.heap[gb262]? = some (.cells #[.int .i64 a0_0, .int .i64 a0_1, .int .i64 a0_2, .int .i64 a0_3, .int .i64 a0_4, .int .i64 a0_5, .int .i64 a0_6, .int .i64 a0_7, .int .i64 a0_8, .int .i64 a0_9] 56 (0, 0))) ∧ Aside0 (Below w.heap.size w wc))
 case first =>
  have H := HC2.out
  clear HC2
  obtain ⟨t263, A4, H⟩ := bindE_ H
  by_cases c5 : t263 = true
  ·subst c5
   replace H := ite_t_ H
   obtain ⟨t264, A6, H⟩ := bindE_ H
   by_cases c7 : t264 = true
   ·subst c7
    replace H := ite_t_ H
    obtain ⟨t265, A8, H⟩ := bindE_ H
    have H' := Aside0.mk H
    clear H
    have hcz9 := blk_cell BK262.out
    have hfz9 := blk_frozen BK262.out
    go_wp2_with (first | ((with_reducible refine gate_callee (f := 122) rfl ?_); refine goesC_ (some 6) Try.func122 #[.agg #[.int .i64 a0_1, .int .i64 a0_2]] ?_; (with_reducible refine (impl_RoleOk.calls a0_1 a0_2 true _ A4.out).mono ?_); rintro e w10 ⟨rfl, hb⟩; refine ⟨_, rfl, ?_⟩; replace BK262 := bkb_ BK262 hb; replace HB := hbs_ hb; clear hb; have hcz11 := blk_cell BK262.out; have hfz11 := blk_frozen BK262.out) | (go_at_call 121; (with_reducible refine (impl_in.calls a0_8 1 9999 true _ A6.out).mono ?_); rintro e w' ⟨rfl, ⟨nd, rfl⟩⟩) | (go_at_call 121; (with_reducible refine (impl_in.calls a0_9 0 99 t265 _ A8.out).mono ?_); rintro e w' ⟨rfl, ⟨nd, rfl⟩⟩))
    go_meet
    case rel => exact ⟨_, (!t265), rf_, H', ⟨by first | omega | exact Nat.le_refl _⟩, ⟨bk_ BK262⟩, ⟨bl_⟩⟩
   ·replace c7 := Bool.eq_false_iff.mpr c7
    subst c7
    replace H := ite_f_ H
    have H' := Aside0.mk H
    clear H
    have hcz12 := blk_cell BK262.out
    have hfz12 := blk_frozen BK262.out
    go_wp2_with (first | ((with_reducible refine gate_callee (f := 122) rfl ?_); refine goesC_ (some 6) Try.func122 #[.agg #[.int .i64 a0_1, .int .i64 a0_2]] ?_; (with_reducible refine (impl_RoleOk.calls a0_1 a0_2 true _ A4.out).mono ?_); rintro e w13 ⟨rfl, hb⟩; refine ⟨_, rfl, ?_⟩; replace BK262 := bkb_ BK262 hb; replace HB := hbs_ hb; clear hb; have hcz14 := blk_cell BK262.out; have hfz14 := blk_frozen BK262.out) | (go_at_call 121; (with_reducible refine (impl_in.calls a0_8 1 9999 false _ A6.out).mono ?_); rintro e w' ⟨rfl, ⟨nd, rfl⟩⟩))
    go_meet
    case rel => exact ⟨_, (true), rf_, H', ⟨by first | omega | exact Nat.le_refl _⟩, ⟨bk_ BK262⟩, ⟨bl_⟩⟩
  ·replace c5 := Bool.eq_false_iff.mpr c5
   subst c5
   replace H := ite_f_ H
   have H' := Aside0.mk H
   clear H
   have hcz15 := blk_cell BK262.out
   have hfz15 := blk_frozen BK262.out
   go_wp2_with (first | ((with_reducible refine gate_callee (f := 122) rfl ?_); refine goesC_ (some 6) Try.func122 #[.agg #[.int .i64 a0_1, .int .i64 a0_2]] ?_; (with_reducible refine (impl_RoleOk.calls a0_1 a0_2 false _ A4.out).mono ?_); rintro e w16 ⟨rfl, hb⟩; refine ⟨_, rfl, ?_⟩; replace BK262 := bkb_ BK262 hb; replace HB := hbs_ hb; clear hb))
   go_meet
   case rel => exact ⟨_, (true), rf_, H', ⟨by first | omega | exact Nat.le_refl _⟩, ⟨bk_ BK262⟩, ⟨bl_⟩⟩
 case rest =>
  clear HC2
  try clear c1
  try clear p2
  try clear c5
  try clear c7
  try clear c9
  try clear c12
  try clear hcz11
  try clear hcz12
  try clear hcz14
  try clear hcz15
  try clear hcz9
  try clear hfz11
  try clear hfz12
  try clear hfz14
  try clear hfz15
  try clear hfz9
  obtain ⟨kq, x19_1, rfl, HA, HJ1, BK262, HB⟩ := hcut
  cases kq with
  | zero => exact absurd HA.out (by simp [impl_CredOk.j0])
  | succ kj1 =>
   have H := HA.out
   clear HA
   simp only [impl_CredOk.j0] at H
   by_cases c17 : x19_1 = true
   ·subst c17
    replace H := ite_t_ H
    obtain rfl := Option.some.inj H
    go_wp2
    go_ret
    exact ⟨eq_, bl_⟩
   ·replace c17 := Bool.eq_false_iff.mpr c17
    subst c17
    replace H := ite_f_ H
    by_cases c18 : a0_0 = 1
    ·rw [if_pos c18] at H
     have c18b0 : (a0_0 == 1) = true := beq_iff_eq.mpr c18
     have c18b1 : (a0_0 != 1) = false := bne_eq_false_iff_eq.mpr c18
     clear c18
     obtain ⟨t267, A19, H⟩ := bindE_ H
     by_cases c20 : t267 = true
     ·subst c20
      replace H := ite_t_ H
      by_cases c21 : (a0_4 == 0 && (a0_5 == 0)) = true
      ·rw [if_pos c21] at H
       have c21b0 : (a0_4 == 0 && (a0_5 == 0)) = true := c21
       (try (have c21b1 : decide (a0_4 = 0 && (a0_5 == 0)) = true := by simpa using c21))
       (try (have c21b2 : (a0_4 == 0 && (a0_5 == 0)) = true := by simpa using c21))
       clear c21
       obtain rfl := Option.some.inj H
       go_wp2_with (first | ((with_reducible refine gate_dst (N := 3) rfl ?_); refine box_event ?hg (N := 3) ?hd (cs := #[.int .i64 0, .int .i64 0]) (t := 49) ?hr ?_; (case hd => rfl); (case hg => rfl); (case hr => first | (go_simp; done) | (go_simp; rfl)); intro gb266 hg w22 hbox hb; have BK266 := Aside0.mk (hbox); have GW266 := gs_ hg; have GE266 := gs_ hg; replace HB := hbs_ hb; have NB262_266 := nl_ hg BK262; have NB266_262 := nr_ hg BK262; replace BK262 := bkb_ BK262 hb; clear hb hbox hg; have hnb23 := NB266_262.out; have hnc23 := NB262_266.out; have hcz24 := blk_cell BK266.out; have hfz24 := blk_frozen BK266.out; have hcz25 := blk_cell BK262.out; have hfz25 := blk_frozen BK262.out) | ((with_reducible refine gate_callee (f := 171) rfl ?_); refine goesC_ (some 27) Try.func171 #[.int .i64 a0_3] ?_; (with_reducible refine (impl_isPerson.calls a0_3 true _ A19.out).mono ?_); rintro e w' ⟨rfl, ⟨nd, rfl⟩⟩; refine ⟨_, rfl, ?_⟩))
       go_ret
       exact ⟨eq_, bl_⟩
      ·rw [if_neg c21] at H
       have c21b0 : (a0_4 == 0 && (a0_5 == 0)) = false := by simpa using c21
       (try (have c21b1 : decide (a0_4 = 0 && (a0_5 == 0)) = false := by simpa using c21))
       (try (have c21b2 : (a0_4 == 0 && (a0_5 == 0)) = false := by simpa using c21))
       (try (have c21b3 : ¬ (a0_4 = 0 && (a0_5 == 0)) := by simpa using c21))
       clear c21
       obtain rfl := Option.some.inj H
       go_wp2_with (first | ((with_reducible refine gate_dst (N := 3) rfl ?_); refine box_event ?hg (N := 3) ?hd (cs := #[.int .i64 0, .int .i64 0]) (t := 49) ?hr ?_; (case hd => rfl); (case hg => rfl); (case hr => first | (go_simp; done) | (go_simp; rfl)); intro gb266 hg w26 hbox hb; have BK266 := Aside0.mk (hbox); have GW266 := gs_ hg; have GE266 := gs_ hg; replace HB := hbs_ hb; have NB262_266 := nl_ hg BK262; have NB266_262 := nr_ hg BK262; replace BK262 := bkb_ BK262 hb; clear hb hbox hg; have hnb27 := NB266_262.out; have hnc27 := NB262_266.out; have hcz28 := blk_cell BK266.out; have hfz28 := blk_frozen BK266.out; have hcz29 := blk_cell BK262.out; have hfz29 := blk_frozen BK262.out) | ((with_reducible refine gate_callee (f := 171) rfl ?_); refine goesC_ (some 27) Try.func171 #[.int .i64 a0_3] ?_; (with_reducible refine (impl_isPerson.calls a0_3 true _ A19.out).mono ?_); rintro e w' ⟨rfl, ⟨nd, rfl⟩⟩; refine ⟨_, rfl, ?_⟩))
       go_ret
       exact ⟨eq_, bl_⟩
     ·replace c20 := Bool.eq_false_iff.mpr c20
      subst c20
      replace H := ite_f_ H
      obtain rfl := Option.some.inj H
      go_wp2_with (first | ((with_reducible refine gate_dst (N := 3) rfl ?_); refine box_event ?hg (N := 3) ?hd (cs := #[.int .i64 0, .int .i64 0]) (t := 49) ?hr ?_; (case hd => rfl); (case hg => rfl); (case hr => first | (go_simp; done) | (go_simp; rfl)); intro gb266 hg w30 hbox hb; have BK266 := Aside0.mk (hbox); have GW266 := gs_ hg; have GE266 := gs_ hg; replace HB := hbs_ hb; have NB262_266 := nl_ hg BK262; have NB266_262 := nr_ hg BK262; replace BK262 := bkb_ BK262 hb; clear hb hbox hg; have hnb31 := NB266_262.out; have hnc31 := NB262_266.out; have hcz32 := blk_cell BK266.out; have hfz32 := blk_frozen BK266.out; have hcz33 := blk_cell BK262.out; have hfz33 := blk_frozen BK262.out) | ((with_reducible refine gate_callee (f := 171) rfl ?_); refine goesC_ (some 27) Try.func171 #[.int .i64 a0_3] ?_; (with_reducible refine (impl_isPerson.calls a0_3 false _ A19.out).mono ?_); rintro e w' ⟨rfl, ⟨nd, rfl⟩⟩; refine ⟨_, rfl, ?_⟩))
      go_ret
      exact ⟨eq_, bl_⟩
    ·rw [if_neg c18] at H
     have c18b0 : (a0_0 == 1) = false := beq_eq_false_iff_ne.mpr c18
     have c18b1 : (a0_0 != 1) = true := bne_iff_ne.mpr c18
     by_cases c34 : a0_0 = 2
     ·rw [if_pos c34] at H
      have c34b0 : (a0_0 == 2) = true := beq_iff_eq.mpr c34
      have c34b1 : (a0_0 != 2) = false := bne_eq_false_iff_eq.mpr c34
      clear c34
      by_cases c35 : a0_3 = 0
      ·rw [if_pos c35] at H
       have c35b0 : (a0_3 == 0) = true := beq_iff_eq.mpr c35
       have c35b1 : (a0_3 != 0) = false := bne_eq_false_iff_eq.mpr c35
       clear c35
       obtain ⟨t268, A36, H⟩ := bindE_ H
       by_cases c37 : t268 = true
       ·subst c37
        replace H := ite_t_ H
        obtain rfl := Option.some.inj H
        go_wp2_with (first | ((with_reducible refine gate_dst (N := 3) rfl ?_); refine box_event ?hg (N := 3) ?hd (cs := #[.int .i64 0, .int .i64 0]) (t := 49) ?hr ?_; (case hd => rfl); (case hg => rfl); (case hr => first | (go_simp; done) | (go_simp; rfl)); intro gb266 hg w38 hbox hb; have BK266 := Aside0.mk (hbox); have GW266 := gs_ hg; have GE266 := gs_ hg; replace HB := hbs_ hb; have NB262_266 := nl_ hg BK262; have NB266_262 := nr_ hg BK262; replace BK262 := bkb_ BK262 hb; clear hb hbox hg; have hnb39 := NB266_262.out; have hnc39 := NB262_266.out; have hcz40 := blk_cell BK266.out; have hfz40 := blk_frozen BK266.out; have hcz41 := blk_cell BK262.out; have hfz41 := blk_frozen BK262.out) | (go_at_call 122; (with_reducible refine (impl_RoleOk.calls a0_4 a0_5 true _ A36.out).mono ?_); rintro e w42 ⟨rfl, hb⟩; replace BK262 := Aside0.mk (blk_below (g := gb262) (o := .cells #[.int .i64 a0_0, .int .i64 a0_1, .int .i64 a0_2, .int .i64 a0_3, .int .i64 a0_4, .int .i64 a0_5, .int .i64 a0_6, .int .i64 a0_7, .int .i64 a0_8, .int .i64 a0_9] 56 (0, 0)) (bk_ BK262) hb); replace BK266 := Aside0.mk (blk_below (g := gb266) (o := .cells #[.int .i64 0, .int .i64 0] 49 (0, 0)) (bk_ BK266) hb); replace HB := hbs_ hb; clear hb; have hcz43 := blk_cell BK262.out; have hfz43 := blk_frozen BK262.out; have hcz44 := blk_cell BK266.out; have hfz44 := blk_frozen BK266.out))
        go_ret
        exact ⟨eq_, bl_⟩
       ·replace c37 := Bool.eq_false_iff.mpr c37
        subst c37
        replace H := ite_f_ H
        obtain rfl := Option.some.inj H
        go_wp2_with (first | ((with_reducible refine gate_dst (N := 3) rfl ?_); refine box_event ?hg (N := 3) ?hd (cs := #[.int .i64 0, .int .i64 0]) (t := 49) ?hr ?_; (case hd => rfl); (case hg => rfl); (case hr => first | (go_simp; done) | (go_simp; rfl)); intro gb266 hg w45 hbox hb; have BK266 := Aside0.mk (hbox); have GW266 := gs_ hg; have GE266 := gs_ hg; replace HB := hbs_ hb; have NB262_266 := nl_ hg BK262; have NB266_262 := nr_ hg BK262; replace BK262 := bkb_ BK262 hb; clear hb hbox hg; have hnb46 := NB266_262.out; have hnc46 := NB262_266.out; have hcz47 := blk_cell BK266.out; have hfz47 := blk_frozen BK266.out; have hcz48 := blk_cell BK262.out; have hfz48 := blk_frozen BK262.out) | (go_at_call 122; (with_reducible refine (impl_RoleOk.calls a0_4 a0_5 false _ A36.out).mono ?_); rintro e w49 ⟨rfl, hb⟩; replace BK262 := Aside0.mk (blk_below (g := gb262) (o := .cells #[.int .i64 a0_0, .int .i64 a0_1, .int .i64 a0_2, .int .i64 a0_3, .int .i64 a0_4, .int .i64 a0_5, .int .i64 a0_6, .int .i64 a0_7, .int .i64 a0_8, .int .i64 a0_9] 56 (0, 0)) (bk_ BK262) hb); replace BK266 := Aside0.mk (blk_below (g := gb266) (o := .cells #[.int .i64 0, .int .i64 0] 49 (0, 0)) (bk_ BK266) hb); replace HB := hbs_ hb; clear hb))
        go_ret
        exact ⟨eq_, bl_⟩
      ·rw [if_neg c35] at H
       have c35b0 : (a0_3 == 0) = false := beq_eq_false_iff_ne.mpr c35
       have c35b1 : (a0_3 != 0) = true := bne_iff_ne.mpr c35
       obtain rfl := Option.some.inj H
       go_wp2_with (first | ((with_reducible refine gate_dst (N := 3) rfl ?_); refine box_event ?hg (N := 3) ?hd (cs := #[.int .i64 0, .int .i64 0]) (t := 49) ?hr ?_; (case hd => rfl); (case hg => rfl); (case hr => first | (go_simp; done) | (go_simp; rfl)); intro gb266 hg w50 hbox hb; have BK266 := Aside0.mk (hbox); have GW266 := gs_ hg; have GE266 := gs_ hg; replace HB := hbs_ hb; have NB262_266 := nl_ hg BK262; have NB266_262 := nr_ hg BK262; replace BK262 := bkb_ BK262 hb; clear hb hbox hg; have hnb51 := NB266_262.out; have hnc51 := NB262_266.out; have hcz52 := blk_cell BK266.out; have hfz52 := blk_frozen BK266.out; have hcz53 := blk_cell BK262.out; have hfz53 := blk_frozen BK262.out))
       go_ret
       exact ⟨eq_, bl_⟩
     ·rw [if_neg c34] at H
      have c34b0 : (a0_0 == 2) = false := beq_eq_false_iff_ne.mpr c34
      have c34b1 : (a0_0 != 2) = true := bne_iff_ne.mpr c34
      by_cases c54 : a0_0 = 3
      ·rw [if_pos c54] at H
       have c54b0 : (a0_0 == 3) = true := beq_iff_eq.mpr c54
       have c54b1 : (a0_0 != 3) = false := bne_eq_false_iff_eq.mpr c54
       clear c54
       by_cases c55 : a0_3 = 0
       ·rw [if_pos c55] at H
        have c55b0 : (a0_3 == 0) = true := beq_iff_eq.mpr c55
        have c55b1 : (a0_3 != 0) = false := bne_eq_false_iff_eq.mpr c55
        clear c55
        obtain ⟨t269, A56, H⟩ := bindE_ H
        by_cases c57 : t269 = true
        ·subst c57
         replace H := ite_t_ H
         obtain ⟨t270, A58, H⟩ := bindE_ H
         by_cases c59 : t270 = true
         ·subst c59
          replace H := ite_t_ H
          obtain rfl := Option.some.inj H
          go_wp2_with (first | ((with_reducible refine gate_dst (N := 3) rfl ?_); refine box_event ?hg (N := 3) ?hd (cs := #[.int .i64 0, .int .i64 0]) (t := 49) ?hr ?_; (case hd => rfl); (case hg => rfl); (case hr => first | (go_simp; done) | (go_simp; rfl)); intro gb266 hg w60 hbox hb; have BK266 := Aside0.mk (hbox); have GW266 := gs_ hg; have GE266 := gs_ hg; replace HB := hbs_ hb; have NB262_266 := nl_ hg BK262; have NB266_262 := nr_ hg BK262; replace BK262 := bkb_ BK262 hb; clear hb hbox hg; have hnb61 := NB266_262.out; have hnc61 := NB262_266.out; have hcz62 := blk_cell BK266.out; have hfz62 := blk_frozen BK266.out; have hcz63 := blk_cell BK262.out; have hfz63 := blk_frozen BK262.out) | (go_at_call 122; (with_reducible refine (impl_RoleOk.calls a0_4 a0_5 true _ A56.out).mono ?_); rintro e w64 ⟨rfl, hb⟩; replace BK262 := Aside0.mk (blk_below (g := gb262) (o := .cells #[.int .i64 a0_0, .int .i64 a0_1, .int .i64 a0_2, .int .i64 a0_3, .int .i64 a0_4, .int .i64 a0_5, .int .i64 a0_6, .int .i64 a0_7, .int .i64 a0_8, .int .i64 a0_9] 56 (0, 0)) (bk_ BK262) hb); replace BK266 := Aside0.mk (blk_below (g := gb266) (o := .cells #[.int .i64 0, .int .i64 0] 49 (0, 0)) (bk_ BK266) hb); replace HB := hbs_ hb; clear hb; have hcz65 := blk_cell BK262.out; have hfz65 := blk_frozen BK262.out) | (go_at_call 122; (with_reducible refine (impl_RoleOk.calls a0_6 a0_7 true _ A58.out).mono ?_); rintro e w66 ⟨rfl, hb⟩; replace BK262 := bkb_ BK262 hb; replace BK266 := bkb_ BK266 hb; replace HB := hbs_ hb; clear hb; have hcz67 := blk_cell BK262.out; have hfz67 := blk_frozen BK262.out))
          go_ret
          exact ⟨eq_, bl_⟩
         ·replace c59 := Bool.eq_false_iff.mpr c59
          subst c59
          replace H := ite_f_ H
          obtain rfl := Option.some.inj H
          go_wp2_with (first | ((with_reducible refine gate_dst (N := 3) rfl ?_); refine box_event ?hg (N := 3) ?hd (cs := #[.int .i64 0, .int .i64 0]) (t := 49) ?hr ?_; (case hd => rfl); (case hg => rfl); (case hr => first | (go_simp; done) | (go_simp; rfl)); intro gb266 hg w68 hbox hb; have BK266 := Aside0.mk (hbox); have GW266 := gs_ hg; have GE266 := gs_ hg; replace HB := hbs_ hb; have NB262_266 := nl_ hg BK262; have NB266_262 := nr_ hg BK262; replace BK262 := bkb_ BK262 hb; clear hb hbox hg; have hnb69 := NB266_262.out; have hnc69 := NB262_266.out; have hcz70 := blk_cell BK266.out; have hfz70 := blk_frozen BK266.out; have hcz71 := blk_cell BK262.out; have hfz71 := blk_frozen BK262.out) | (go_at_call 122; (with_reducible refine (impl_RoleOk.calls a0_4 a0_5 true _ A56.out).mono ?_); rintro e w72 ⟨rfl, hb⟩; replace BK262 := Aside0.mk (blk_below (g := gb262) (o := .cells #[.int .i64 a0_0, .int .i64 a0_1, .int .i64 a0_2, .int .i64 a0_3, .int .i64 a0_4, .int .i64 a0_5, .int .i64 a0_6, .int .i64 a0_7, .int .i64 a0_8, .int .i64 a0_9] 56 (0, 0)) (bk_ BK262) hb); replace BK266 := Aside0.mk (blk_below (g := gb266) (o := .cells #[.int .i64 0, .int .i64 0] 49 (0, 0)) (bk_ BK266) hb); replace HB := hbs_ hb; clear hb; have hcz73 := blk_cell BK262.out; have hfz73 := blk_frozen BK262.out) | (go_at_call 122; (with_reducible refine (impl_RoleOk.calls a0_6 a0_7 false _ A58.out).mono ?_); rintro e w74 ⟨rfl, hb⟩; replace BK262 := bkb_ BK262 hb; replace BK266 := bkb_ BK266 hb; replace HB := hbs_ hb; clear hb))
          go_ret
          exact ⟨eq_, bl_⟩
        ·replace c57 := Bool.eq_false_iff.mpr c57
         subst c57
         replace H := ite_f_ H
         obtain rfl := Option.some.inj H
         go_wp2_with (first | ((with_reducible refine gate_dst (N := 3) rfl ?_); refine box_event ?hg (N := 3) ?hd (cs := #[.int .i64 0, .int .i64 0]) (t := 49) ?hr ?_; (case hd => rfl); (case hg => rfl); (case hr => first | (go_simp; done) | (go_simp; rfl)); intro gb266 hg w75 hbox hb; have BK266 := Aside0.mk (hbox); have GW266 := gs_ hg; have GE266 := gs_ hg; replace HB := hbs_ hb; have NB262_266 := nl_ hg BK262; have NB266_262 := nr_ hg BK262; replace BK262 := bkb_ BK262 hb; clear hb hbox hg; have hnb76 := NB266_262.out; have hnc76 := NB262_266.out; have hcz77 := blk_cell BK266.out; have hfz77 := blk_frozen BK266.out; have hcz78 := blk_cell BK262.out; have hfz78 := blk_frozen BK262.out) | (go_at_call 122; (with_reducible refine (impl_RoleOk.calls a0_4 a0_5 false _ A56.out).mono ?_); rintro e w79 ⟨rfl, hb⟩; replace BK262 := Aside0.mk (blk_below (g := gb262) (o := .cells #[.int .i64 a0_0, .int .i64 a0_1, .int .i64 a0_2, .int .i64 a0_3, .int .i64 a0_4, .int .i64 a0_5, .int .i64 a0_6, .int .i64 a0_7, .int .i64 a0_8, .int .i64 a0_9] 56 (0, 0)) (bk_ BK262) hb); replace BK266 := Aside0.mk (blk_below (g := gb266) (o := .cells #[.int .i64 0, .int .i64 0] 49 (0, 0)) (bk_ BK266) hb); replace HB := hbs_ hb; clear hb))
         go_ret
         exact ⟨eq_, bl_⟩
       ·rw [if_neg c55] at H
        have c55b0 : (a0_3 == 0) = false := beq_eq_false_iff_ne.mpr c55
        have c55b1 : (a0_3 != 0) = true := bne_iff_ne.mpr c55
        obtain rfl := Option.some.inj H
        go_wp2_with (first | ((with_reducible refine gate_dst (N := 3) rfl ?_); refine box_event ?hg (N := 3) ?hd (cs := #[.int .i64 0, .int .i64 0]) (t := 49) ?hr ?_; (case hd => rfl); (case hg => rfl); (case hr => first | (go_simp; done) | (go_simp; rfl)); intro gb266 hg w80 hbox hb; have BK266 := Aside0.mk (hbox); have GW266 := gs_ hg; have GE266 := gs_ hg; replace HB := hbs_ hb; have NB262_266 := nl_ hg BK262; have NB266_262 := nr_ hg BK262; replace BK262 := bkb_ BK262 hb; clear hb hbox hg; have hnb81 := NB266_262.out; have hnc81 := NB262_266.out; have hcz82 := blk_cell BK266.out; have hfz82 := blk_frozen BK266.out; have hcz83 := blk_cell BK262.out; have hfz83 := blk_frozen BK262.out))
        go_ret
        exact ⟨eq_, bl_⟩
      ·rw [if_neg c54] at H
       have c54b0 : (a0_0 == 3) = false := beq_eq_false_iff_ne.mpr c54
       have c54b1 : (a0_0 != 3) = true := bne_iff_ne.mpr c54
       by_cases c84 : a0_0 = 4
       ·rw [if_pos c84] at H
        have c84b0 : (a0_0 == 4) = true := beq_iff_eq.mpr c84
        have c84b1 : (a0_0 != 4) = false := bne_eq_false_iff_eq.mpr c84
        clear c84
        by_cases c85 : a0_3 = 0
        ·rw [if_pos c85] at H
         have c85b0 : (a0_3 == 0) = true := beq_iff_eq.mpr c85
         have c85b1 : (a0_3 != 0) = false := bne_eq_false_iff_eq.mpr c85
         clear c85
         obtain ⟨t271, A86, H⟩ := bindE_ H
         by_cases c87 : t271 = true
         ·subst c87
          replace H := ite_t_ H
          obtain ⟨t272, A88, H⟩ := bindE_ H
          obtain rfl := Option.some.inj H
          go_wp2_with (first | ((with_reducible refine gate_dst (N := 3) rfl ?_); refine box_event ?hg (N := 3) ?hd (cs := #[.int .i64 0, .int .i64 0]) (t := 49) ?hr ?_; (case hd => rfl); (case hg => rfl); (case hr => first | (go_simp; done) | (go_simp; rfl)); intro gb266 hg w89 hbox hb; have BK266 := Aside0.mk (hbox); have GW266 := gs_ hg; have GE266 := gs_ hg; replace HB := hbs_ hb; have NB262_266 := nl_ hg BK262; have NB266_262 := nr_ hg BK262; replace BK262 := bkb_ BK262 hb; clear hb hbox hg; have hnb90 := NB266_262.out; have hnc90 := NB262_266.out; have hcz91 := blk_cell BK266.out; have hfz91 := blk_frozen BK266.out; have hcz92 := blk_cell BK262.out; have hfz92 := blk_frozen BK262.out) | (go_at_call 122; (with_reducible refine (impl_RoleOk.calls a0_4 a0_5 true _ A86.out).mono ?_); rintro e w93 ⟨rfl, hb⟩; replace BK262 := Aside0.mk (blk_below (g := gb262) (o := .cells #[.int .i64 a0_0, .int .i64 a0_1, .int .i64 a0_2, .int .i64 a0_3, .int .i64 a0_4, .int .i64 a0_5, .int .i64 a0_6, .int .i64 a0_7, .int .i64 a0_8, .int .i64 a0_9] 56 (0, 0)) (bk_ BK262) hb); replace BK266 := Aside0.mk (blk_below (g := gb266) (o := .cells #[.int .i64 0, .int .i64 0] 49 (0, 0)) (bk_ BK266) hb); replace HB := hbs_ hb; clear hb; have hcz94 := blk_cell BK262.out; have hfz94 := blk_frozen BK262.out) | (go_at_call 122; (with_reducible refine (impl_RoleOk.calls a0_6 a0_7 t272 _ A88.out).mono ?_); rintro e w95 ⟨rfl, hb⟩; replace BK262 := bkb_ BK262 hb; replace BK266 := bkb_ BK266 hb; replace HB := hbs_ hb; clear hb))
          go_ret
          exact ⟨eq_, bl_⟩
         ·replace c87 := Bool.eq_false_iff.mpr c87
          subst c87
          replace H := ite_f_ H
          obtain rfl := Option.some.inj H
          go_wp2_with (first | ((with_reducible refine gate_dst (N := 3) rfl ?_); refine box_event ?hg (N := 3) ?hd (cs := #[.int .i64 0, .int .i64 0]) (t := 49) ?hr ?_; (case hd => rfl); (case hg => rfl); (case hr => first | (go_simp; done) | (go_simp; rfl)); intro gb266 hg w96 hbox hb; have BK266 := Aside0.mk (hbox); have GW266 := gs_ hg; have GE266 := gs_ hg; replace HB := hbs_ hb; have NB262_266 := nl_ hg BK262; have NB266_262 := nr_ hg BK262; replace BK262 := bkb_ BK262 hb; clear hb hbox hg; have hnb97 := NB266_262.out; have hnc97 := NB262_266.out; have hcz98 := blk_cell BK266.out; have hfz98 := blk_frozen BK266.out; have hcz99 := blk_cell BK262.out; have hfz99 := blk_frozen BK262.out) | (go_at_call 122; (with_reducible refine (impl_RoleOk.calls a0_4 a0_5 false _ A86.out).mono ?_); rintro e w100 ⟨rfl, hb⟩; replace BK262 := Aside0.mk (blk_below (g := gb262) (o := .cells #[.int .i64 a0_0, .int .i64 a0_1, .int .i64 a0_2, .int .i64 a0_3, .int .i64 a0_4, .int .i64 a0_5, .int .i64 a0_6, .int .i64 a0_7, .int .i64 a0_8, .int .i64 a0_9] 56 (0, 0)) (bk_ BK262) hb); replace BK266 := Aside0.mk (blk_below (g := gb266) (o := .cells #[.int .i64 0, .int .i64 0] 49 (0, 0)) (bk_ BK266) hb); replace HB := hbs_ hb; clear hb))
          go_ret
          exact ⟨eq_, bl_⟩
        ·rw [if_neg c85] at H
         have c85b0 : (a0_3 == 0) = false := beq_eq_false_iff_ne.mpr c85
         have c85b1 : (a0_3 != 0) = true := bne_iff_ne.mpr c85
         obtain rfl := Option.some.inj H
         go_wp2_with (first | ((with_reducible refine gate_dst (N := 3) rfl ?_); refine box_event ?hg (N := 3) ?hd (cs := #[.int .i64 0, .int .i64 0]) (t := 49) ?hr ?_; (case hd => rfl); (case hg => rfl); (case hr => first | (go_simp; done) | (go_simp; rfl)); intro gb266 hg w101 hbox hb; have BK266 := Aside0.mk (hbox); have GW266 := gs_ hg; have GE266 := gs_ hg; replace HB := hbs_ hb; have NB262_266 := nl_ hg BK262; have NB266_262 := nr_ hg BK262; replace BK262 := bkb_ BK262 hb; clear hb hbox hg; have hnb102 := NB266_262.out; have hnc102 := NB262_266.out; have hcz103 := blk_cell BK266.out; have hfz103 := blk_frozen BK266.out; have hcz104 := blk_cell BK262.out; have hfz104 := blk_frozen BK262.out))
         go_ret
         exact ⟨eq_, bl_⟩
       ·rw [if_neg c84] at H
        have c84b0 : (a0_0 == 4) = false := beq_eq_false_iff_ne.mpr c84
        have c84b1 : (a0_0 != 4) = true := bne_iff_ne.mpr c84
        obtain rfl := Option.some.inj H
        go_wp2_with (first | ((with_reducible refine gate_dst (N := 3) rfl ?_); refine box_event ?hg (N := 3) ?hd (cs := #[.int .i64 0, .int .i64 0]) (t := 49) ?hr ?_; (case hd => rfl); (case hg => rfl); (case hr => first | (go_simp; done) | (go_simp; rfl)); intro gb266 hg w105 hbox hb; have BK266 := Aside0.mk (hbox); have GW266 := gs_ hg; have GE266 := gs_ hg; replace HB := hbs_ hb; have NB262_266 := nl_ hg BK262; have NB266_262 := nr_ hg BK262; replace BK262 := bkb_ BK262 hb; clear hb hbox hg; have hnb106 := NB266_262.out; have hnc106 := NB262_266.out; have hcz107 := blk_cell BK266.out; have hfz107 := blk_frozen BK266.out; have hcz108 := blk_cell BK262.out; have hfz108 := blk_frozen BK262.out))
        go_ret
        exact ⟨eq_, bl_⟩
end Go.Proofs.Ytjpjidgfcljpcaa.PC
