import Derived.Test.YteehgihclnlaoaaKDPAx4
-- printed by wip/tools
namespace Go.Proofs.Yteehgihclnlaoaa.PA
open Go.RowKit Go.Proofs.YteehgihclnlaoaaW.PrintWords Go.Proofs.YteehgihclnlaoaaW.PrintLast Go.Proofs.YteehgihclnlaoaaW.PrintMore
attribute [local go_sem] max2_int min2_int max_two min_two max_three min_three max_four min_four
set_option linter.unusedVariables false
set_option linter.unusedSimpArgs false
def spec_l06Creds.l0 : Nat → List (S48) → Int → List Int → Int → Int → Option ((List (S48)) × Int × Int)
 | 0, _, _, _, _, _ => none
 | k + 1, x3, x4, x1000, x1001, x1002 => (spec_l01Below.f x1000 x1001 x1002 9).bind fun bt204 => (if x4 < (wrap64 (1 + bt204.1)) then ((spec_l05Cred.f x1000 bt204.2.1 bt204.2.2).bind fun bt207 => (if x3.length < 1759218604441 then (spec_l06Creds.l0 k (x3 ++ [(⟨bt207.1, (⟨bt207.2.1, bt207.2.2.1⟩ : S26), bt207.2.2.2.1, (⟨bt207.2.2.2.2.1, bt207.2.2.2.2.2.1⟩ : S26), (⟨bt207.2.2.2.2.2.2.1, bt207.2.2.2.2.2.2.2.1⟩ : S26), bt207.2.2.2.2.2.2.2.2.1, bt207.2.2.2.2.2.2.2.2.2.1⟩ : S48)]) (wrap64 (x4 + 1)) x1000 bt207.2.2.2.2.2.2.2.2.2.2.1 bt207.2.2.2.2.2.2.2.2.2.2.2) else (none))) else (some (x3, bt204.2.1, bt204.2.2)))
def spec_l06Creds.f (k : Nat) (s0_0 : List Int) (s0_1 : Int) (s0_2 : Int) : Option ((List (S48)) × Int × Int) := spec_l06Creds.l0 k (([] : List (S48))) 0 s0_0 s0_1 s0_2
set_option maxHeartbeats 8000000 in
set_option maxRecDepth 100000 in
theorem spec_l06Creds.calls (k : Nat) (g : Nat) (s0_0 : List Int) (s0_1 : Int) (s0_2 : Int) (r1 : List (S48)) (r2 : Int) (r3 : Int) (w0 w : World) (hI : IsS61 w0 w g s0_0 s0_1 s0_2) (hB : Below w0.heap.size w0 w) (h : spec_l06Creds.f k s0_0 s0_1 s0_2 = some (r1, r2, r3)) :
  Calls Try.prog 57 #[.pointer (some ⟨g, 0, none⟩)] w fun e w' => ∃ v0_ : Value, e = .returned (v0_) ∧ Kd.R k48 48 w' w.heap.size (fun _ => True) v0_ r1 ∧ IsS61 w0 w' g s0_0 r2 r3 ∧ Below w0.heap.size w0 w' ∧ KeepBut w w' g none := by
 have HI0 := Aside0.mk hI
 have HK := Aside0.mk (KeepBut.refl w g none)
 have HL := Aside0.mk hB.size
 clear hI
 have HW0 := Aside0.mk hB.size
 have HB := Aside0.mk hB
 clear hB
 have H : (spec_l06Creds.l0 k (([] : List (S48))) 0 s0_0 s0_1 s0_2) = some (r1, r2, r3) := h
 clear h
 obtain ⟨y201, hy201⟩ : ∃ y_ : List (S48), y_ = (([] : List (S48))) := ⟨_, rfl⟩
 replace H : (spec_l06Creds.l0 k y201 0 s0_0 s0_1 s0_2) = some (r1, r2, r3) := by first | (rw [hy201]; with_reducible exact H) | (have H2_ := (Option.bind_some _ _).symm.trans H; rw [hy201]; with_reducible exact H2_) | (have H2_ := (Option.bind_some _ _).symm.trans H; with_reducible exact H2_) | with_reducible exact H | (rw [hy201]; exact H) | exact H
 have Ny201 := Aside0.mk hy201
 clear hy201
 have H' := Aside0.mk H
 clear H
 go_enter Try.func57, Try.ntmps57
 go_wp2_with (first | ((with_reducible refine gate_dst (N := 5) rfl ?_); refine Kd.R_lit k48 _ 48 ?hg (N := 5) ?hd (xs := ([] : List (S48))) (inner := []) (ok := fun _ => True) (okp := fun _ => True) ?hr ?hp (fun _ hk => hk) trivial (Below.refl _ _) (Nat.le_refl _) (by simp) ?_; (case hd => rfl); (case hg => rfl); (case hr => first | (go_simp; done) | (go_simp; rfl)); (case hp => exact (Reps.none _ _)); intro v202 w2 ho3 hb hg_ hnew_; clear hg_ hnew_; (first | rw [← Ny201.out] at ho3 | (simp only [Int.reduceToNat] at ho3; rw [← Ny201.out] at ho3)); have HO203 := Aside0.mk (Kd.R_lower ho3 (keep_size (w := w) (g := g) (row := none) (by exact kp_))); replace HK := Aside0.mk (KeepBut.trans (by exact kp_) (KeepBut.of_below hb g none) (.inl rfl)); replace HB := Aside0.mk (below_step (by exact IsS61.bw_) hb); replace HI0 := Aside0.mk (IsS61.below (by exact IsS61.nw_) hb); clear hb ho3))
 go_loopg [3, 4] k (fun kq v3 v4 w' => ∃ (x3_1 : List (S48)) (x4_1 : Int) (x1001_1 : Int) (x1002_1 : Int), v4 = .int .i64 x4_1 ∧ Aside0 (spec_l06Creds.l0 kq x3_1 x4_1 s0_0 x1001_1 x1002_1 = some (r1, r2, r3)) ∧ Aside0 (kq ≤ k) ∧ Aside0 (Kd.R k48 48 w' w.heap.size (fun _ => True) v3 x3_1) ∧ Aside0 (IsS61 w0 w' g s0_0 x1001_1 x1002_1) ∧ Aside0 (KeepBut w w' g none) ∧ Aside0 (Below w0.heap.size w0 w'))
 case atStart => exact ⟨(y201), (0), (s0_1), (s0_2), rf_, H', ⟨Nat.le_refl _⟩, ⟨by (with_reducible repeat (first | apply Kd.R_alloc | apply Kd.R_drewN | apply Kd.R_drew)); exact HO203.out⟩, ⟨by exact IsS61.nw_⟩, ⟨by exact kp_⟩, ⟨by exact IsS61.bw_⟩⟩
 case round =>
  clear H'
  try clear p2
  obtain ⟨x3_1, x4_1, x1001_1, x1002_1, rfl, HA, HK1, HO_3, HI0, HK, HB⟩ := hrel
  cases gk with
  | zero => exact absurd HA.out (by simp [spec_l06Creds.l0])
  | succ k1 =>
   have H := HA.out
   clear HA
   simp only [spec_l06Creds.l0] at H
   obtain ⟨⟨t204, t205, t206⟩, A4, H⟩ := bindE_ H
   replace H : (if x4_1 < (wrap64 (1 + t204)) then ((spec_l05Cred.f s0_0 t205 t206).bind fun bt207 => (if x3_1.length < 1759218604441 then (spec_l06Creds.l0 k1 (x3_1 ++ [(⟨bt207.1, (⟨bt207.2.1, bt207.2.2.1⟩ : S26), bt207.2.2.2.1, (⟨bt207.2.2.2.2.1, bt207.2.2.2.2.2.1⟩ : S26), (⟨bt207.2.2.2.2.2.2.1, bt207.2.2.2.2.2.2.2.1⟩ : S26), bt207.2.2.2.2.2.2.2.2.1, bt207.2.2.2.2.2.2.2.2.2.1⟩ : S48)]) (wrap64 (x4_1 + 1)) s0_0 bt207.2.2.2.2.2.2.2.2.2.2.1 bt207.2.2.2.2.2.2.2.2.2.2.2) else (none))) else (some (x3_1, t205, t206))) = some (r1, r2, r3) := H
   by_cases c5 : x4_1 < (wrap64 (1 + t204))
   ·rw [if_pos c5] at H
    have c5b0 : decide (x4_1 < (wrap64 (1 + t204))) = true := decide_eq_true c5
    clear c5
    obtain ⟨⟨t207, t208, t209, t210, t211, t212, t213, t214, t215, t216, t217, t218⟩, A6, H⟩ := bindE_ H
    replace H : (if x3_1.length < 1759218604441 then (spec_l06Creds.l0 k1 (x3_1 ++ [(⟨t207, (⟨t208, t209⟩ : S26), t210, (⟨t211, t212⟩ : S26), (⟨t213, t214⟩ : S26), t215, t216⟩ : S48)]) (wrap64 (x4_1 + 1)) s0_0 t217 t218) else (none)) = some (r1, r2, r3) := H
    obtain ⟨c7, H⟩ := ifn_ H
    have LMc7 := Aside0.mk c7
    clear c7
    obtain ⟨y219, hy219⟩ : ∃ y_ : List (S48), y_ = (x3_1 ++ [(⟨t207, (⟨t208, t209⟩ : S26), t210, (⟨t211, t212⟩ : S26), (⟨t213, t214⟩ : S26), t215, t216⟩ : S48)]) := ⟨_, rfl⟩
    replace H : (spec_l06Creds.l0 k1 y219 (wrap64 (x4_1 + 1)) s0_0 t217 t218) = some (r1, r2, r3) := by first | (rw [hy219]; with_reducible exact H) | (have H2_ := (Option.bind_some _ _).symm.trans H; rw [hy219]; with_reducible exact H2_) | (have H2_ := (Option.bind_some _ _).symm.trans H; with_reducible exact H2_) | with_reducible exact H | (rw [hy219]; exact H) | exact H
    have Ny219 := Aside0.mk hy219
    clear hy219
    have H' := Aside0.mk H
    clear H
    go_wp2_with (first | ((with_reducible refine gate_callee (f := 43) rfl ?_); refine goesC_ (some 8) Try.func43 #[.pointer (some ⟨g, 0, none⟩), .int .i64 9] ?_; (with_reducible refine (spec_l01Below.calls g s0_0 x1001_1 x1002_1 9 t204 t205 t206 w0 _ ?side1 ?side2 A4.out).mono ?_); (case side1 => exact IsS61.nw_); (case side2 => exact IsS61.bw_); rintro e w8 ⟨rfl, hi, hb, hk⟩; refine ⟨_, rfl, ?_⟩; replace HO_3 := Aside0.mk (Kd.R_mono (Kd.R_keep (IsS61.apart (show IsS61 w0 _ g s0_0 x1001_1 x1002_1 from by exact IsS61.nw_) (by (with_reducible repeat (first | apply Kd.R_alloc | apply Kd.R_drewN | apply Kd.R_drew)); exact HO_3.out) (by decide)) hk (fun _ h => h.2)) (fun _ h => h.1)); replace HK := Aside0.mk (KeepBut.trans (by exact kp_) hk (.inl rfl)); replace HB := Aside0.mk (hb); replace HI0 := Aside0.mk (hi); (try clear hb); (try clear hb2); (try clear hk); (try clear hi)) | ((with_reducible refine gate_callee (f := 74) rfl ?_); refine goesC_ (some 15) Try.func74 #[.pointer (some ⟨g, 0, none⟩)] ?_; (with_reducible refine (spec_l05Cred.calls g s0_0 t205 t206 t207 t208 t209 t210 t211 t212 t213 t214 t215 t216 t217 t218 w0 _ ?side1 ?side2 A6.out).mono ?_); (case side1 => exact IsS61.nw_); (case side2 => exact IsS61.bw_); rintro e w9 ⟨rfl, hi, hb, hk⟩; refine ⟨_, rfl, ?_⟩; replace HO_3 := Aside0.mk (Kd.R_mono (Kd.R_keep (IsS61.apart (show IsS61 w0 _ g s0_0 t205 t206 from by exact IsS61.nw_) (by (with_reducible repeat (first | apply Kd.R_alloc | apply Kd.R_drewN | apply Kd.R_drew)); exact HO_3.out) (by decide)) hk (fun _ h => h.2)) (fun _ h => h.1)); replace HK := Aside0.mk (KeepBut.trans (by exact kp_) hk (.inl rfl)); replace HB := Aside0.mk (hb); replace HI0 := Aside0.mk (hi); (try clear hb); (try clear hb2); (try clear hk); (try clear hi)) | ((with_reducible refine gate_builtin (b := .append) (xs := #[.tmp 13, .tmp 16]) rfl ?_); at_builtin; refine Kd.R_append k48 w.heap.size rfl (.tmp 13) (.tmp 16) 24 48 (.agg #[(.int .i64 0), (.int .i64 0), (.int .i64 0), (.int .i64 0), (.int .i64 0), (.int .i64 0), (.int .i64 0), (.int .i64 0), (.int .i64 0), (.int .i64 0)]) 80 rfl Try.underlying24 info48 rfl (by decide) (by omega) u3 x3_1 (⟨t207, (⟨t208, t209⟩ : S26), t210, (⟨t211, t212⟩ : S26), (⟨t213, t214⟩ : S26), t215, t216⟩ : S48) [.int .i64 t207, .int .i64 t208, .int .i64 t209, .int .i64 t210, .int .i64 t211, .int .i64 t212, .int .i64 t213, .int .i64 t214, .int .i64 t215, .int .i64 t216] (fun _ => True) (fun _ => False) rfl rfl ?aP (fun _ hk => hk.elim) ?aF ?aO (Below.refl _ _) ?aS ?aL ?_; (case aP => exact k48_mkM _ _ _ (⟨t207, (⟨t208, t209⟩ : S26), t210, (⟨t211, t212⟩ : S26), (⟨t213, t214⟩ : S26), t215, t216⟩ : S48)); (case aF => exact (fun _ _ => trivial)); (case aO => exact (by (with_reducible repeat (first | apply Kd.R_alloc | apply Kd.R_drewN | apply Kd.R_drew)); exact HO_3.out)); (case aS => exact (keep_size (w := w) (g := g) (row := none) (by exact kp_))); (case aL => have := LMc7.out; omega); intro v220 w10 ho hb hg hat; rw [← Ny219.out] at ho; replace HB := Aside0.mk (below_weaken (by exact IsS61.bw_) HL.out hb); replace HI0 := Aside0.mk (IsS61.grown (show IsS61 w0 _ g s0_0 t217 t218 from by exact IsS61.nw_) hg (IsS61.own_ne HI0.out HO_3.out (by decide))); replace HK := Aside0.mk (KeepBut.trans (by exact kp_) (KeepBut.of_grown hg g) (Kd.R_base2 HO_3.out)); have HO221 := Aside0.mk (ho); clear HO_3; clear ho hb hg hat))
    go_roundg k1
    case measure => have := HK1.out; omega
    case rel => exact ⟨(y219), (wrap64 (x4_1 + 1)), (t217), (t218), rf_, H', ⟨by have := HK1.out; omega⟩, ⟨by (with_reducible repeat (first | apply Kd.R_alloc | apply Kd.R_drewN | apply Kd.R_drew)); exact HO221.out⟩, ⟨by exact IsS61.nw_⟩, ⟨by exact kp_⟩, ⟨by exact IsS61.bw_⟩⟩
   ·rw [if_neg c5] at H
    have c5b0 : decide (x4_1 < (wrap64 (1 + t204))) = false := decide_eq_false c5
    clear c5
    simp only [Option.some.injEq, Prod.mk.injEq] at H
    obtain ⟨rfl, rfl, rfl⟩ := H
    go_wp2_with (first | ((with_reducible refine gate_callee (f := 43) rfl ?_); refine goesC_ (some 8) Try.func43 #[.pointer (some ⟨g, 0, none⟩), .int .i64 9] ?_; (with_reducible refine (spec_l01Below.calls g s0_0 x1001_1 x1002_1 9 t204 t205 t206 w0 _ ?side1 ?side2 A4.out).mono ?_); (case side1 => exact IsS61.nw_); (case side2 => exact IsS61.bw_); rintro e w11 ⟨rfl, hi, hb, hk⟩; refine ⟨_, rfl, ?_⟩; replace HO_3 := Aside0.mk (Kd.R_mono (Kd.R_keep (IsS61.apart (show IsS61 w0 _ g s0_0 x1001_1 x1002_1 from by exact IsS61.nw_) (by (with_reducible repeat (first | apply Kd.R_alloc | apply Kd.R_drewN | apply Kd.R_drew)); exact HO_3.out) (by decide)) hk (fun _ h => h.2)) (fun _ h => h.1)); replace HK := Aside0.mk (KeepBut.trans (by exact kp_) hk (.inl rfl)); replace HB := Aside0.mk (hb); replace HI0 := Aside0.mk (hi); (try clear hb); (try clear hb2); (try clear hk); (try clear hi)))
    go_ret
    exact ⟨_, eq_, by (with_reducible repeat (first | apply Kd.R_alloc | apply Kd.R_drewN | apply Kd.R_drew)); exact HO_3.out, by exact IsS61.nw_, by exact IsS61.bw_, by exact kp_⟩
def spec_l01Once.f (s0_0 : List Int) (s0_1 : Int) (s0_2 : Int) (a1 : Int) : Option (Bool × Int × Int) := (spec_l01Below.f s0_0 s0_1 s0_2 a1).bind fun bt222 => (some ((bt222.1 == 0), bt222.2.1, bt222.2.2))
set_option maxHeartbeats 8000000 in
set_option maxRecDepth 100000 in
theorem spec_l01Once.calls (g : Nat) (s0_0 : List Int) (s0_1 : Int) (s0_2 : Int) (a1 : Int) (r1 : Bool) (r2 : Int) (r3 : Int) (w0 w : World) (hI : IsS61 w0 w g s0_0 s0_1 s0_2) (hB : Below w0.heap.size w0 w) (h : spec_l01Once.f s0_0 s0_1 s0_2 a1 = some (r1, r2, r3)) :
  Calls Try.prog 58 #[.pointer (some ⟨g, 0, none⟩), .int .i64 a1] w fun e w' => e = .returned (.bool r1) ∧ IsS61 w0 w' g s0_0 r2 r3 ∧ Below w0.heap.size w0 w' ∧ KeepBut w w' g none := by
 have HI0 := Aside0.mk hI
 have HK := Aside0.mk (KeepBut.refl w g none)
 have HL := Aside0.mk hB.size
 clear hI
 have HW0 := Aside0.mk hB.size
 have HB := Aside0.mk hB
 clear hB
 have H : ((spec_l01Below.f s0_0 s0_1 s0_2 a1).bind fun bt222 => (some ((bt222.1 == 0), bt222.2.1, bt222.2.2))) = some (r1, r2, r3) := h
 clear h
 obtain ⟨⟨t222, t223, t224⟩, A3, H⟩ := bindE_ H
 replace H : (some ((t222 == 0), t223, t224)) = some (r1, r2, r3) := H
 simp only [Option.some.injEq, Prod.mk.injEq] at H
 obtain ⟨rfl, rfl, rfl⟩ := H
 go_enter Try.func58, Try.ntmps58
 go_wp2_with (first | ((with_reducible refine gate_callee (f := 43) rfl ?_); refine goesC_ (some 7) Try.func43 #[.pointer (some ⟨g, 0, none⟩), .int .i64 a1] ?_; (with_reducible refine (spec_l01Below.calls g s0_0 s0_1 s0_2 a1 t222 t223 t224 w0 _ ?side1 ?side2 A3.out).mono ?_); (case side1 => exact IsS61.nw_); (case side2 => exact IsS61.bw_); rintro e w4 ⟨rfl, hi, hb, hk⟩; refine ⟨_, rfl, ?_⟩; replace HK := Aside0.mk (KeepBut.trans (by exact kp_) hk (.inl rfl)); replace HB := Aside0.mk (hb); replace HI0 := Aside0.mk (hi); (try clear hb); (try clear hb2); (try clear hk); (try clear hi)))
 go_ret
 exact ⟨eq_, by exact IsS61.nw_, by exact IsS61.bw_, by exact kp_⟩
end Go.Proofs.Yteehgihclnlaoaa.PA
