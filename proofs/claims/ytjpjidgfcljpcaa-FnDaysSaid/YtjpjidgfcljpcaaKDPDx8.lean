import Derived.Test.YtjpjidgfcljpcaaKDPDx7
-- A text of this claim: written by the session's own program out of the translation (wip/tools). Lean checks it.
namespace Go.Proofs.Ytjpjidgfcljpcaa.PD
open Go.RowKit Go.Proofs.YtjpjidgfcljpcaaW.PrintWords Go.Proofs.YtjpjidgfcljpcaaW.PrintLast Go.Proofs.YtjpjidgfcljpcaaW.PrintMore
attribute [local go_sem] max2_int min2_int max_two min_two max_three min_three max_four min_four   -- for this text's walks alone
set_option linter.unusedVariables false
set_option linter.unusedSimpArgs false
attribute [local go_sem high] eqA51
def spec_l06Creds.l0 : Nat → List (S56) → Int → List Int → Int → Int → Option ((List (S56)) × Int × Int)
 | 0, _, _, _, _, _ => none
 | k + 1, x3, x4, x1000, x1001, x1002 => (spec_l01Below.f x1000 x1001 x1002 9).bind fun bt258 => (if x4 < (wrap64 (1 + bt258.1)) then ((spec_l05Cred.f x1000 bt258.2.1 bt258.2.2).bind fun bt261 => (if x3.length < 1759218604441 then (spec_l06Creds.l0 k (x3 ++ [(⟨bt261.1, (⟨bt261.2.1, bt261.2.2.1⟩ : S49), bt261.2.2.2.1, (⟨bt261.2.2.2.2.1, bt261.2.2.2.2.2.1⟩ : S49), (⟨bt261.2.2.2.2.2.2.1, bt261.2.2.2.2.2.2.2.1⟩ : S49), bt261.2.2.2.2.2.2.2.2.1, bt261.2.2.2.2.2.2.2.2.2.1⟩ : S56)]) (wrap64 (x4 + 1)) x1000 bt261.2.2.2.2.2.2.2.2.2.2.1 bt261.2.2.2.2.2.2.2.2.2.2.2) else (none))) else (some (x3, bt258.2.1, bt258.2.2)))
def spec_l06Creds.f (k : Nat) (s0_0 : List Int) (s0_1 : Int) (s0_2 : Int) : Option ((List (S56)) × Int × Int) := spec_l06Creds.l0 k (([] : List (S56))) 0 s0_0 s0_1 s0_2
set_option maxHeartbeats 8000000 in
set_option maxRecDepth 100000 in
theorem spec_l06Creds.calls (k : Nat) (g : Nat) (s0_0 : List Int) (s0_1 : Int) (s0_2 : Int) (r1 : List (S56)) (r2 : Int) (r3 : Int) (w0 w : World) (hI : IsS201 w0 w g s0_0 s0_1 s0_2) (hB : Below w0.heap.size w0 w) (h : spec_l06Creds.f k s0_0 s0_1 s0_2 = some (r1, r2, r3)) :
  Calls Try.prog 99 #[.pointer (some ⟨g, 0, none⟩)] w fun e w' => ∃ v0_ : Value, e = .returned (v0_) ∧ Kd.R k56 56 w' w.heap.size (fun _ => True) v0_ r1 ∧ IsS201 w0 w' g s0_0 r2 r3 ∧ Below w0.heap.size w0 w' ∧ KeepBut w w' g none := by
 have HI0 := Aside0.mk hI
 have HK := Aside0.mk (KeepBut.refl w g none)
 have HL := Aside0.mk hB.size
 clear hI
 have HW0 := Aside0.mk hB.size
 have HB := Aside0.mk hB
 clear hB
 have H : (spec_l06Creds.l0 k (([] : List (S56))) 0 s0_0 s0_1 s0_2) = some (r1, r2, r3) := h
 clear h
 obtain ⟨y255, hy255⟩ : ∃ y_ : List (S56), y_ = (([] : List (S56))) := ⟨_, rfl⟩
 replace H : (spec_l06Creds.l0 k y255 0 s0_0 s0_1 s0_2) = some (r1, r2, r3) := by first | (rw [hy255]; with_reducible exact H) | (have H2_ := (Option.bind_some _ _).symm.trans H; rw [hy255]; with_reducible exact H2_) | (have H2_ := (Option.bind_some _ _).symm.trans H; with_reducible exact H2_) | with_reducible exact H | (rw [hy255]; exact H) | exact H
 have Ny255 := Aside0.mk hy255
 clear hy255
 have H' := Aside0.mk H
 clear H
 go_enter Try.func99, Try.ntmps99
 go_wp2_with (first | ((with_reducible refine gate_dst (N := 5) rfl ?_); refine Kd.R_lit k56 _ 56 ?hg (N := 5) ?hd (xs := ([] : List (S56))) (inner := []) (ok := fun _ => True) (okp := fun _ => True) ?hr ?hp (fun _ hk => hk) trivial (Below.refl _ _) (Nat.le_refl _) (by simp) ?_; (case hd => rfl); (case hg => rfl); (case hr => first | (go_simp; done) | (go_simp; rfl)); (case hp => exact (Reps.none _ _)); intro v256 w2 ho3 hb hg_ hnew_; clear hg_ hnew_; (first | rw [← Ny255.out] at ho3 | (simp only [Int.reduceToNat] at ho3; rw [← Ny255.out] at ho3)); have HO257 := Aside0.mk (Kd.R_lower ho3 (keep_size (w := w) (g := g) (row := none) (by repeat (first | (with_reducible first | exact HK.out | apply KeepBut.set_ | apply keep_drewN | apply keep_drew | apply keep_alloc) | exact HK.out)))); replace HK := Aside0.mk (KeepBut.trans (by repeat (first | (with_reducible first | exact HK.out | apply KeepBut.set_ | apply keep_drewN | apply keep_drew | apply keep_alloc) | exact HK.out)) (KeepBut.of_below hb g none) (.inl rfl)); replace HB := Aside0.mk (below_step (by repeat (first | (with_reducible first | exact HB.out | apply below_alloc | apply pw_below_drewN | apply below_drew1 | refine below_set ?_ (IsS201.ge HI0.out)) | exact HB.out)) hb); replace HI0 := Aside0.mk (IsS201.below (by repeat (first | (with_reducible first | exact HI0.out | apply IsS201.alloc | apply IsS201.drewN | apply IsS201.drew | apply IsS201.set_1 | apply IsS201.set_2) | exact HI0.out)) hb); clear hb ho3))
 go_loopg [3, 4] k (fun kq v3 v4 w' => ∃ (x3_1 : List (S56)) (x4_1 : Int) (x1001_1 : Int) (x1002_1 : Int), v4 = .int .i64 x4_1 ∧ Aside0 (spec_l06Creds.l0 kq x3_1 x4_1 s0_0 x1001_1 x1002_1 = some (r1, r2, r3)) ∧ Aside0 (kq ≤ k) ∧ Aside0 (Kd.R k56 56 w' w.heap.size (fun _ => True) v3 x3_1) ∧ Aside0 (IsS201 w0 w' g s0_0 x1001_1 x1002_1) ∧ Aside0 (KeepBut w w' g none) ∧ Aside0 (Below w0.heap.size w0 w'))
 case atStart => exact ⟨(y255), (0), (s0_1), (s0_2), (by first | rfl | (simp; done) | (simp [*]; done)), H', ⟨Nat.le_refl _⟩, ⟨by (with_reducible repeat (first | apply Kd.R_alloc | apply Kd.R_drewN | apply Kd.R_drew)); exact HO257.out⟩, ⟨by repeat (first | (with_reducible first | exact HI0.out | apply IsS201.alloc | apply IsS201.drewN | apply IsS201.drew | apply IsS201.set_1 | apply IsS201.set_2) | exact HI0.out)⟩, ⟨by repeat (first | (with_reducible first | exact HK.out | apply KeepBut.set_ | apply keep_drewN | apply keep_drew | apply keep_alloc) | exact HK.out)⟩, ⟨by repeat (first | (with_reducible first | exact HB.out | apply below_alloc | apply pw_below_drewN | apply below_drew1 | refine below_set ?_ (IsS201.ge HI0.out)) | exact HB.out)⟩⟩
 case round =>
  clear H'
  try clear p2
  obtain ⟨x3_1, x4_1, x1001_1, x1002_1, rfl, HA, HK1, HO_3, HI0, HK, HB⟩ := hrel
  cases gk with
  | zero => exact absurd HA.out (by simp [spec_l06Creds.l0])
  | succ k1 =>
   have H := HA.out
   clear HA
   simp only [spec_l06Creds.l0] at H
   obtain ⟨⟨t258, t259, t260⟩, A4, H⟩ := bindE_ H
   replace H : (if x4_1 < (wrap64 (1 + t258)) then ((spec_l05Cred.f s0_0 t259 t260).bind fun bt261 => (if x3_1.length < 1759218604441 then (spec_l06Creds.l0 k1 (x3_1 ++ [(⟨bt261.1, (⟨bt261.2.1, bt261.2.2.1⟩ : S49), bt261.2.2.2.1, (⟨bt261.2.2.2.2.1, bt261.2.2.2.2.2.1⟩ : S49), (⟨bt261.2.2.2.2.2.2.1, bt261.2.2.2.2.2.2.2.1⟩ : S49), bt261.2.2.2.2.2.2.2.2.1, bt261.2.2.2.2.2.2.2.2.2.1⟩ : S56)]) (wrap64 (x4_1 + 1)) s0_0 bt261.2.2.2.2.2.2.2.2.2.2.1 bt261.2.2.2.2.2.2.2.2.2.2.2) else (none))) else (some (x3_1, t259, t260))) = some (r1, r2, r3) := H
   by_cases c5 : x4_1 < (wrap64 (1 + t258))
   ·rw [if_pos c5] at H
    have c5b0 : decide (x4_1 < (wrap64 (1 + t258))) = true := decide_eq_true c5
    clear c5
    obtain ⟨⟨t261, t262, t263, t264, t265, t266, t267, t268, t269, t270, t271, t272⟩, A6, H⟩ := bindE_ H
    replace H : (if x3_1.length < 1759218604441 then (spec_l06Creds.l0 k1 (x3_1 ++ [(⟨t261, (⟨t262, t263⟩ : S49), t264, (⟨t265, t266⟩ : S49), (⟨t267, t268⟩ : S49), t269, t270⟩ : S56)]) (wrap64 (x4_1 + 1)) s0_0 t271 t272) else (none)) = some (r1, r2, r3) := H
    by_cases c7 : x3_1.length < 1759218604441
    ·rw [if_pos c7] at H
     have LMc7 := Aside0.mk c7
     clear c7
     obtain ⟨y273, hy273⟩ : ∃ y_ : List (S56), y_ = (x3_1 ++ [(⟨t261, (⟨t262, t263⟩ : S49), t264, (⟨t265, t266⟩ : S49), (⟨t267, t268⟩ : S49), t269, t270⟩ : S56)]) := ⟨_, rfl⟩
     replace H : (spec_l06Creds.l0 k1 y273 (wrap64 (x4_1 + 1)) s0_0 t271 t272) = some (r1, r2, r3) := by first | (rw [hy273]; with_reducible exact H) | (have H2_ := (Option.bind_some _ _).symm.trans H; rw [hy273]; with_reducible exact H2_) | (have H2_ := (Option.bind_some _ _).symm.trans H; with_reducible exact H2_) | with_reducible exact H | (rw [hy273]; exact H) | exact H
     have Ny273 := Aside0.mk hy273
     clear hy273
     have H' := Aside0.mk H
     clear H
     go_wp2_with (first | ((with_reducible refine gate_callee (f := 110) rfl ?_); refine goesC_ (some 8) Try.func110 #[.pointer (some ⟨g, 0, none⟩), .int .i64 9] ?_; (with_reducible refine (spec_l01Below.calls g s0_0 x1001_1 x1002_1 9 t258 t259 t260 w0 _ ?side1 ?side2 A4.out).mono ?_); (case side1 => repeat (first | (with_reducible first | exact HI0.out | apply IsS201.alloc | apply IsS201.drewN | apply IsS201.drew | apply IsS201.set_1 | apply IsS201.set_2) | exact HI0.out)); (case side2 => repeat (first | (with_reducible first | exact HB.out | apply below_alloc | apply pw_below_drewN | apply below_drew1 | refine below_set ?_ (IsS201.ge HI0.out)) | exact HB.out)); rintro e w8 ⟨rfl, hi, hb, hk⟩; refine ⟨_, rfl, ?_⟩; replace HO_3 := Aside0.mk (Kd.R_mono (Kd.R_keep (IsS201.apart (show IsS201 w0 _ g s0_0 x1001_1 x1002_1 from by repeat (first | (with_reducible first | exact HI0.out | apply IsS201.alloc | apply IsS201.drewN | apply IsS201.drew | apply IsS201.set_1 | apply IsS201.set_2) | exact HI0.out)) (by (with_reducible repeat (first | apply Kd.R_alloc | apply Kd.R_drewN | apply Kd.R_drew)); exact HO_3.out) (by decide)) hk (fun _ h => h.2)) (fun _ h => h.1)); replace HK := Aside0.mk (KeepBut.trans (by repeat (first | (with_reducible first | exact HK.out | apply KeepBut.set_ | apply keep_drewN | apply keep_drew | apply keep_alloc) | exact HK.out)) hk (.inl rfl)); replace HB := Aside0.mk (hb); replace HI0 := Aside0.mk (hi); (try clear hb); (try clear hb2); (try clear hk); (try clear hi)) | ((with_reducible refine gate_callee (f := 174) rfl ?_); refine goesC_ (some 15) Try.func174 #[.pointer (some ⟨g, 0, none⟩)] ?_; (with_reducible refine (spec_l05Cred.calls g s0_0 t259 t260 t261 t262 t263 t264 t265 t266 t267 t268 t269 t270 t271 t272 w0 _ ?side1 ?side2 A6.out).mono ?_); (case side1 => repeat (first | (with_reducible first | exact HI0.out | apply IsS201.alloc | apply IsS201.drewN | apply IsS201.drew | apply IsS201.set_1 | apply IsS201.set_2) | exact HI0.out)); (case side2 => repeat (first | (with_reducible first | exact HB.out | apply below_alloc | apply pw_below_drewN | apply below_drew1 | refine below_set ?_ (IsS201.ge HI0.out)) | exact HB.out)); rintro e w9 ⟨rfl, hi, hb, hk⟩; refine ⟨_, rfl, ?_⟩; replace HO_3 := Aside0.mk (Kd.R_mono (Kd.R_keep (IsS201.apart (show IsS201 w0 _ g s0_0 t259 t260 from by repeat (first | (with_reducible first | exact HI0.out | apply IsS201.alloc | apply IsS201.drewN | apply IsS201.drew | apply IsS201.set_1 | apply IsS201.set_2) | exact HI0.out)) (by (with_reducible repeat (first | apply Kd.R_alloc | apply Kd.R_drewN | apply Kd.R_drew)); exact HO_3.out) (by decide)) hk (fun _ h => h.2)) (fun _ h => h.1)); replace HK := Aside0.mk (KeepBut.trans (by repeat (first | (with_reducible first | exact HK.out | apply KeepBut.set_ | apply keep_drewN | apply keep_drew | apply keep_alloc) | exact HK.out)) hk (.inl rfl)); replace HB := Aside0.mk (hb); replace HI0 := Aside0.mk (hi); (try clear hb); (try clear hb2); (try clear hk); (try clear hi)) | ((with_reducible refine gate_builtin (b := .append) (xs := #[.tmp 13, .tmp 16]) rfl ?_); at_builtin; refine Kd.R_append k56 w.heap.size rfl (.tmp 13) (.tmp 16) 32 56 (.agg #[(.int .i64 0), (.int .i64 0), (.int .i64 0), (.int .i64 0), (.int .i64 0), (.int .i64 0), (.int .i64 0), (.int .i64 0), (.int .i64 0), (.int .i64 0)]) 80 rfl Try.underlying32 info56 rfl (by decide) (by omega) u3 x3_1 (⟨t261, (⟨t262, t263⟩ : S49), t264, (⟨t265, t266⟩ : S49), (⟨t267, t268⟩ : S49), t269, t270⟩ : S56) [.int .i64 t261, .int .i64 t262, .int .i64 t263, .int .i64 t264, .int .i64 t265, .int .i64 t266, .int .i64 t267, .int .i64 t268, .int .i64 t269, .int .i64 t270] (fun _ => True) (fun _ => False) rfl rfl ?aP (fun _ hk => hk.elim) ?aF ?aO (Below.refl _ _) ?aS ?aL ?_; (case aP => exact k56_mkM _ _ _ (⟨t261, (⟨t262, t263⟩ : S49), t264, (⟨t265, t266⟩ : S49), (⟨t267, t268⟩ : S49), t269, t270⟩ : S56)); (case aF => exact (fun _ _ => trivial)); (case aO => exact (by (with_reducible repeat (first | apply Kd.R_alloc | apply Kd.R_drewN | apply Kd.R_drew)); exact HO_3.out)); (case aS => exact (keep_size (w := w) (g := g) (row := none) (by repeat (first | (with_reducible first | exact HK.out | apply KeepBut.set_ | apply keep_drewN | apply keep_drew | apply keep_alloc) | exact HK.out)))); (case aL => have := LMc7.out; omega); intro v274 w10 ho hb hg hat; rw [← Ny273.out] at ho; replace HB := Aside0.mk (below_weaken (by repeat (first | (with_reducible first | exact HB.out | apply below_alloc | apply pw_below_drewN | apply below_drew1 | refine below_set ?_ (IsS201.ge HI0.out)) | exact HB.out)) HL.out hb); replace HI0 := Aside0.mk (IsS201.grown (show IsS201 w0 _ g s0_0 t271 t272 from by repeat (first | (with_reducible first | exact HI0.out | apply IsS201.alloc | apply IsS201.drewN | apply IsS201.drew | apply IsS201.set_1 | apply IsS201.set_2) | exact HI0.out)) hg (IsS201.own_ne HI0.out HO_3.out (by decide))); replace HK := Aside0.mk (KeepBut.trans (by repeat (first | (with_reducible first | exact HK.out | apply KeepBut.set_ | apply keep_drewN | apply keep_drew | apply keep_alloc) | exact HK.out)) (KeepBut.of_grown hg g) (Kd.R_base2 HO_3.out)); have HO275 := Aside0.mk (ho); clear HO_3; clear ho hb hg hat))
     go_roundg k1
     case measure => have := HK1.out; omega
     case rel => exact ⟨(y273), (wrap64 (x4_1 + 1)), (t271), (t272), (by first | rfl | (simp; done) | (simp [*]; done)), H', ⟨by have := HK1.out; omega⟩, ⟨by (with_reducible repeat (first | apply Kd.R_alloc | apply Kd.R_drewN | apply Kd.R_drew)); exact HO275.out⟩, ⟨by repeat (first | (with_reducible first | exact HI0.out | apply IsS201.alloc | apply IsS201.drewN | apply IsS201.drew | apply IsS201.set_1 | apply IsS201.set_2) | exact HI0.out)⟩, ⟨by repeat (first | (with_reducible first | exact HK.out | apply KeepBut.set_ | apply keep_drewN | apply keep_drew | apply keep_alloc) | exact HK.out)⟩, ⟨by repeat (first | (with_reducible first | exact HB.out | apply below_alloc | apply pw_below_drewN | apply below_drew1 | refine below_set ?_ (IsS201.ge HI0.out)) | exact HB.out)⟩⟩
    ·rw [if_neg c7] at H
     exact absurd H (by simp)
   ·rw [if_neg c5] at H
    have c5b0 : decide (x4_1 < (wrap64 (1 + t258))) = false := decide_eq_false c5
    clear c5
    simp only [Option.some.injEq, Prod.mk.injEq] at H
    obtain ⟨rfl, rfl, rfl⟩ := H
    go_wp2_with (first | ((with_reducible refine gate_callee (f := 110) rfl ?_); refine goesC_ (some 8) Try.func110 #[.pointer (some ⟨g, 0, none⟩), .int .i64 9] ?_; (with_reducible refine (spec_l01Below.calls g s0_0 x1001_1 x1002_1 9 t258 t259 t260 w0 _ ?side1 ?side2 A4.out).mono ?_); (case side1 => repeat (first | (with_reducible first | exact HI0.out | apply IsS201.alloc | apply IsS201.drewN | apply IsS201.drew | apply IsS201.set_1 | apply IsS201.set_2) | exact HI0.out)); (case side2 => repeat (first | (with_reducible first | exact HB.out | apply below_alloc | apply pw_below_drewN | apply below_drew1 | refine below_set ?_ (IsS201.ge HI0.out)) | exact HB.out)); rintro e w11 ⟨rfl, hi, hb, hk⟩; refine ⟨_, rfl, ?_⟩; replace HO_3 := Aside0.mk (Kd.R_mono (Kd.R_keep (IsS201.apart (show IsS201 w0 _ g s0_0 x1001_1 x1002_1 from by repeat (first | (with_reducible first | exact HI0.out | apply IsS201.alloc | apply IsS201.drewN | apply IsS201.drew | apply IsS201.set_1 | apply IsS201.set_2) | exact HI0.out)) (by (with_reducible repeat (first | apply Kd.R_alloc | apply Kd.R_drewN | apply Kd.R_drew)); exact HO_3.out) (by decide)) hk (fun _ h => h.2)) (fun _ h => h.1)); replace HK := Aside0.mk (KeepBut.trans (by repeat (first | (with_reducible first | exact HK.out | apply KeepBut.set_ | apply keep_drewN | apply keep_drew | apply keep_alloc) | exact HK.out)) hk (.inl rfl)); replace HB := Aside0.mk (hb); replace HI0 := Aside0.mk (hi); (try clear hb); (try clear hb2); (try clear hk); (try clear hi)))
    go_ret
    exact ⟨_, eq_, by (with_reducible repeat (first | apply Kd.R_alloc | apply Kd.R_drewN | apply Kd.R_drew)); exact HO_3.out, by repeat (first | (with_reducible first | exact HI0.out | apply IsS201.alloc | apply IsS201.drewN | apply IsS201.drew | apply IsS201.set_1 | apply IsS201.set_2) | exact HI0.out), by repeat (first | (with_reducible first | exact HB.out | apply below_alloc | apply pw_below_drewN | apply below_drew1 | refine below_set ?_ (IsS201.ge HI0.out)) | exact HB.out), by repeat (first | (with_reducible first | exact HK.out | apply KeepBut.set_ | apply keep_drewN | apply keep_drew | apply keep_alloc) | exact HK.out)⟩
def spec_l01New.l0 : Nat → List Int → Int → Int → Option (List Int × Int × Int)
 | 0, _, _, _ => none
 | k + 1, x0, x3, x4 => if x4 < (x0.length : Int) then (if x4 < 4000 then (if 0 ≤ x4 then (spec_l01New.l0 k x0 (Go.bits .and .i64 (wrap64 ((wrap64 ((wrap64 (x3 * 131)) + (wrap64 (rd x0 x4)))) + 7)) 1073741823) (wrap64 (x4 + 1))) else (none)) else (some (x0, 0, x3))) else (some (x0, 0, x3))
def spec_l01New.f (k : Nat) (l0 : List Int) : Option (List Int × Int × Int) := spec_l01New.l0 k l0 (wrap64 (95501 + (l0.length : Int))) 0
set_option maxHeartbeats 8000000 in
set_option maxRecDepth 100000 in
theorem spec_l01New.calls (k : Nat) (A0 : Option Addr) (c0 : Nat) (l0 : List Int) (r1 : List Int) (r2 : Int) (r3 : Int) (w0 w : World) (hB : Below w0.heap.size w0 w) (hr0 : Kd.C (Kd.int .u8) w0 A0 l0.length l0) (hc0 : l0.length ≤ c0) (h : spec_l01New.f k l0 = some (r1, r2, r3)) :
  Calls Try.prog 100 #[.slice A0 l0.length c0] w fun e w' => ∃ g_ : Nat, e = .returned (.pointer (some ⟨g_, 0, none⟩)) ∧ IsS201 w0 w' g_ r1 r2 r3 ∧ Below w0.heap.size w0 w' ∧ Below w.heap.size w w' := by
 have hu201 := Try.underlying201
 have HR0 := Aside0.mk hr0
 have HC0 := Aside0.mk hc0
 clear hr0 hc0
 have HBW := Aside0.mk (Below.refl w.heap.size w)
 have HW0 := Aside0.mk hB.size
 have HB := Aside0.mk hB
 clear hB
 have H : (spec_l01New.l0 k l0 (wrap64 (95501 + (l0.length : Int))) 0) = some (r1, r2, r3) := h
 clear h
 have H' := Aside0.mk H
 clear H
 go_enter Try.func100, Try.ntmps100
 go_wp2
 go_loopg [3, 4] k (fun kq v3 v4 w' => ∃ (x3_1 : Int) (x4_1 : Int), v3 = .int .i64 x3_1 ∧ v4 = .int .i64 x4_1 ∧ Aside0 (spec_l01New.l0 kq l0 x3_1 x4_1 = some (r1, r2, r3)) ∧ Aside0 (kq ≤ k) ∧ Aside0 (Below w0.heap.size w0 w') ∧ Aside0 (Below w.heap.size w w'))
 case atStart => exact ⟨(wrap64 (95501 + (l0.length : Int))), (0), (by first | rfl | (simp; done) | (simp [*]; done)), (by first | rfl | (simp; done) | (simp [*]; done)), H', ⟨Nat.le_refl _⟩, ⟨bl_⟩, ⟨by repeat (first | (with_reducible first | exact HBW.out | apply below_alloc | apply pw_below_drewN | apply below_drew1) | exact HBW.out)⟩⟩
 case round =>
  clear H'
  try clear c1
  obtain ⟨x3_1, x4_1, rfl, rfl, HA, HK1, HB, HBW⟩ := hrel
  cases gk with
  | zero => exact absurd HA.out (by simp [spec_l01New.l0])
  | succ k1 =>
   have H := HA.out
   clear HA
   simp only [spec_l01New.l0] at H
   by_cases c2 : x4_1 < (l0.length : Int)
   ·rw [if_pos c2] at H
    have c2b0 : decide (x4_1 < (l0.length : Int)) = true := decide_eq_true c2
    clear c2
    by_cases c3 : x4_1 < 4000
    ·rw [if_pos c3] at H
     have c3b0 : decide (x4_1 < 4000) = true := decide_eq_true c3
     clear c3
     by_cases c4 : 0 ≤ x4_1
     ·rw [if_pos c4] at H
      have c4b0 : decide (0 ≤ x4_1) = true := decide_eq_true c4
      clear c4
      have H' := Aside0.mk H
      clear H
      have p276 : 0 ≤ (x4_1 : Int) := of_decide_eq_true (by first | (with_reducible assumption) | assumption)
      have q276 : x4_1 < (l0.length : Int) := of_decide_eq_true (by first | (with_reducible assumption) | assumption)
      obtain ⟨ad276, e276, hx276_0⟩ := Kd.at_int HR0.out x4_1 p276 q276
      cases e276
      replace hx276_0 := pw_cell_below HB.out hx276_0
      replace p276 := eq_true p276
      replace q276 := eq_true q276
      go_wp2
      go_roundg k1
      case measure => have := HK1.out; omega
      case rel => exact ⟨(Go.bits .and .i64 (wrap64 ((wrap64 ((wrap64 (x3_1 * 131)) + (wrap64 (rd l0 x4_1)))) + 7)) 1073741823), (wrap64 (x4_1 + 1)), (by first | rfl | (simp; done) | (simp [*]; done)), (by first | rfl | (simp; done) | (simp [*]; done)), H', ⟨by have := HK1.out; omega⟩, ⟨bl_⟩, ⟨by repeat (first | (with_reducible first | exact HBW.out | apply below_alloc | apply pw_below_drewN | apply below_drew1) | exact HBW.out)⟩⟩
     ·rw [if_neg c4] at H
      exact absurd H (by simp)
    ·rw [if_neg c3] at H
     have c3b0 : decide (x4_1 < 4000) = false := decide_eq_false c3
     clear c3
     simp only [Option.some.injEq, Prod.mk.injEq] at H
     obtain ⟨rfl, rfl, rfl⟩ := H
     go_wp2_with (first | ((with_reducible refine gate_dst (N := 31) rfl ?_); refine box_event ?hg (N := 31) ?hd (cs := #[.slice A0 l0.length c0, .int .i64 0, .int .i64 x3_1]) (t := 201) ?hr ?_; (case hd => rfl); (case hg => rfl); (case hr => first | (go_simp; done) | (go_simp; rfl)); intro gb277 hg w5 hbox hb; replace HB := hbs_ hb; have BK277 := Aside0.mk (hbox); have GW277 := Aside0.mk ((by rw [hg]; exact (below_size (by repeat (first | (with_reducible first | exact HBW.out | apply below_alloc | apply pw_below_drewN | apply below_drew1) | exact HBW.out))) : w.heap.size ≤ gb277)); have GE277 := Aside0.mk ((Nat.le_trans HW0.out (by rw [hg]; exact (below_size (by repeat (first | (with_reducible first | exact HBW.out | apply below_alloc | apply pw_below_drewN | apply below_drew1) | exact HBW.out))) : w.heap.size ≤ gb277) : w0.heap.size ≤ gb277)); replace HBW := Aside0.mk (below_step HBW.out hb); clear hb hbox hg))
     go_ret
     exact ⟨_, rfl, (show IsS201 w0 _ gb277 l0 0 x3_1 from ⟨_, _, by (with_reducible repeat (first | refine blk_drewN ?_ _ | refine blk_drew ?_ | refine blk_alloc ?_ _)); exact BK277.out, GE277.out, HR0.out⟩), bl_, by repeat (first | (with_reducible first | exact HBW.out | apply below_alloc | apply pw_below_drewN | apply below_drew1 | refine below_set ?_ GW277.out) | exact HBW.out)⟩
   ·rw [if_neg c2] at H
    have c2b0 : decide (x4_1 < (l0.length : Int)) = false := decide_eq_false c2
    clear c2
    simp only [Option.some.injEq, Prod.mk.injEq] at H
    obtain ⟨rfl, rfl, rfl⟩ := H
    go_wp2_with (first | ((with_reducible refine gate_dst (N := 31) rfl ?_); refine box_event ?hg (N := 31) ?hd (cs := #[.slice A0 l0.length c0, .int .i64 0, .int .i64 x3_1]) (t := 201) ?hr ?_; (case hd => rfl); (case hg => rfl); (case hr => first | (go_simp; done) | (go_simp; rfl)); intro gb278 hg w6 hbox hb; replace HB := hbs_ hb; have BK278 := Aside0.mk (hbox); have GW278 := Aside0.mk ((by rw [hg]; exact (below_size (by repeat (first | (with_reducible first | exact HBW.out | apply below_alloc | apply pw_below_drewN | apply below_drew1) | exact HBW.out))) : w.heap.size ≤ gb278)); have GE278 := Aside0.mk ((Nat.le_trans HW0.out (by rw [hg]; exact (below_size (by repeat (first | (with_reducible first | exact HBW.out | apply below_alloc | apply pw_below_drewN | apply below_drew1) | exact HBW.out))) : w.heap.size ≤ gb278) : w0.heap.size ≤ gb278)); replace HBW := Aside0.mk (below_step HBW.out hb); clear hb hbox hg))
    go_ret
    exact ⟨_, rfl, (show IsS201 w0 _ gb278 l0 0 x3_1 from ⟨_, _, by (with_reducible repeat (first | refine blk_drewN ?_ _ | refine blk_drew ?_ | refine blk_alloc ?_ _)); exact BK278.out, GE278.out, HR0.out⟩), bl_, by repeat (first | (with_reducible first | exact HBW.out | apply below_alloc | apply pw_below_drewN | apply below_drew1 | refine below_set ?_ GW278.out) | exact HBW.out)⟩
def spec_DrawFactOf.f (k : Nat) (l0 : List Int) : Option ((List (S56)) × Int × Int × Int × Bool) := (spec_l01New.f k l0).bind fun bt280 => ((spec_l01Below.f bt280.1 bt280.2.1 bt280.2.2 50).bind fun bt284 => ((spec_l06Creds.f k bt280.1 bt284.2.1 bt284.2.2).bind fun bt287 => ((spec_FactsOf.f k bt287.1).bind fun t292 => (if (t292.length : Int) = 0 then (some (bt287.1, 0, 0, 0, false)) else (if 0 ≤ (Int.tmod bt284.1 (t292.length : Int)) then (if (Int.tmod bt284.1 (t292.length : Int)) < (t292.length : Int) then (some (bt287.1, (rd_T51 t292 (Int.tmod bt284.1 (t292.length : Int))).f0.f0, (rd_T51 t292 (Int.tmod bt284.1 (t292.length : Int))).f0.f1, (rd_T51 t292 (Int.tmod bt284.1 (t292.length : Int))).f1, true)) else (none)) else (none))))))
def spec_DrawFactOf.T7 : Bool × List (List Nat × List Nat) := (true, [([], []), ([], []), ([], []), ([], []), ([3], [3]), ([2, 4], [2, 4]), ([1, 5], [1, 5]), ([6], [6]), ([0, 0], [0]), ([7, 8, 0, 1, 2, 3, 4, 5, 6, 7, 8], [7]), ([9, 0, 1, 2, 3, 4, 5, 6, 7, 8, 9], [])])
def spec_DrawFactOf.B7 : List Nat := [0, 0, 0, 0, 8, 28, 62, 126, 1, 511, 1023]
theorem spec_DrawFactOf.tab7 : rtab .any (opsOf Try.f58 7) = spec_DrawFactOf.T7 := by kernel_rfl
theorem spec_DrawFactOf.bits7 : waitsOk spec_DrawFactOf.T7.2 spec_DrawFactOf.B7 = true := by kernel_rfl
set_option maxHeartbeats 8000000 in
set_option maxRecDepth 100000 in
theorem spec_DrawFactOf.calls (k : Nat) (A0 : Option Addr) (c0 : Nat) (l0 : List Int) (r1 : List (S56)) (r2 : Int) (r3 : Int) (r4 : Int) (r5 : Bool) (w : World) (hr0 : Kd.C (Kd.int .u8) w A0 l0.length l0) (hc0 : l0.length ≤ c0) (h : spec_DrawFactOf.f k l0 = some (r1, r2, r3, r4, r5)) :
  Calls Try.prog 58 #[.slice A0 l0.length c0] w fun e w' => ∃ v0_ : Value, e = .returned (.tuple #[v0_, .agg #[.int .i64 r2, .int .i64 r3, .int .i64 r4], .bool r5]) ∧ Kd.R k56 56 w' w.heap.size (fun _ => True) v0_ r1 ∧ Below w.heap.size w w' := by
 have hu51 := Try.underlying51
 have HR0 := Aside0.mk hr0
 have HC0 := Aside0.mk hc0
 clear hr0 hc0
 have HB := Aside0.mk (Below.refl w.heap.size w)
 have H : ((spec_l01New.f k l0).bind fun bt280 => ((spec_l01Below.f bt280.1 bt280.2.1 bt280.2.2 50).bind fun bt284 => ((spec_l06Creds.f k bt280.1 bt284.2.1 bt284.2.2).bind fun bt287 => ((spec_FactsOf.f k bt287.1).bind fun t292 => (if (t292.length : Int) = 0 then (some (bt287.1, 0, 0, 0, false)) else (if 0 ≤ (Int.tmod bt284.1 (t292.length : Int)) then (if (Int.tmod bt284.1 (t292.length : Int)) < (t292.length : Int) then (some (bt287.1, (rd_T51 t292 (Int.tmod bt284.1 (t292.length : Int))).f0.f0, (rd_T51 t292 (Int.tmod bt284.1 (t292.length : Int))).f0.f1, (rd_T51 t292 (Int.tmod bt284.1 (t292.length : Int))).f1, true)) else (none)) else (none))))))) = some (r1, r2, r3, r4, r5) := h
 clear h
 obtain ⟨⟨t280, t281, t282⟩, A2, H⟩ := bindE_ H
 replace H : ((spec_l01Below.f t280 t281 t282 50).bind fun bt284 => ((spec_l06Creds.f k t280 bt284.2.1 bt284.2.2).bind fun bt287 => ((spec_FactsOf.f k bt287.1).bind fun t292 => (if (t292.length : Int) = 0 then (some (bt287.1, 0, 0, 0, false)) else (if 0 ≤ (Int.tmod bt284.1 (t292.length : Int)) then (if (Int.tmod bt284.1 (t292.length : Int)) < (t292.length : Int) then (some (bt287.1, (rd_T51 t292 (Int.tmod bt284.1 (t292.length : Int))).f0.f0, (rd_T51 t292 (Int.tmod bt284.1 (t292.length : Int))).f0.f1, (rd_T51 t292 (Int.tmod bt284.1 (t292.length : Int))).f1, true)) else (none)) else (none)))))) = some (r1, r2, r3, r4, r5) := H
 obtain ⟨⟨t284, t285, t286⟩, A3, H⟩ := bindE_ H
 replace H : ((spec_l06Creds.f k t280 t285 t286).bind fun bt287 => ((spec_FactsOf.f k bt287.1).bind fun t292 => (if (t292.length : Int) = 0 then (some (bt287.1, 0, 0, 0, false)) else (if 0 ≤ (Int.tmod t284 (t292.length : Int)) then (if (Int.tmod t284 (t292.length : Int)) < (t292.length : Int) then (some (bt287.1, (rd_T51 t292 (Int.tmod t284 (t292.length : Int))).f0.f0, (rd_T51 t292 (Int.tmod t284 (t292.length : Int))).f0.f1, (rd_T51 t292 (Int.tmod t284 (t292.length : Int))).f1, true)) else (none)) else (none))))) = some (r1, r2, r3, r4, r5) := H
 obtain ⟨⟨t287, t290, t291⟩, A4, H⟩ := bindE_ H
 replace H : ((spec_FactsOf.f k t287).bind fun t292 => (if (t292.length : Int) = 0 then (some (t287, 0, 0, 0, false)) else (if 0 ≤ (Int.tmod t284 (t292.length : Int)) then (if (Int.tmod t284 (t292.length : Int)) < (t292.length : Int) then (some (t287, (rd_T51 t292 (Int.tmod t284 (t292.length : Int))).f0.f0, (rd_T51 t292 (Int.tmod t284 (t292.length : Int))).f0.f1, (rd_T51 t292 (Int.tmod t284 (t292.length : Int))).f1, true)) else (none)) else (none)))) = some (r1, r2, r3, r4, r5) := H
 obtain ⟨t292, A5, H⟩ := bindE_ H
 by_cases c6 : (t292.length : Int) = 0
 ·rw [if_pos c6] at H
  have c6b0 : ((t292.length : Int) == 0) = true := beq_iff_eq.mpr c6
  have c6b1 : ((t292.length : Int) != 0) = false := bne_eq_false_iff_eq.mpr c6
  clear c6
  simp only [Option.some.injEq, Prod.mk.injEq] at H
  obtain ⟨rfl, rfl, rfl, rfl, rfl⟩ := H
  go_enter Try.func58, Try.ntmps58
  go_wp2_with (first | ((with_reducible refine gate_dst (N := 3) rfl ?_); refine box_event ?hg (N := 3) ?hd (cs := #[.int .i64 0, .int .i64 0, .int .i64 0]) (t := 51) ?hr ?_; (case hd => rfl); (case hg => rfl); (case hr => first | (go_simp; done) | (go_simp; rfl)); intro gb279 hg w7 hbox hb; have BK279 := Aside0.mk (hbox); have GW279 := gs_ hg; have GE279 := gs_ hg; replace HB := hbs_ hb; clear hb hbox hg) | ((with_reducible refine gate_callee (f := 100) rfl ?_); refine goesC_ (some 10) Try.func100 #[.slice A0 l0.length c0] ?_; (with_reducible refine (spec_l01New.calls k _ _ l0 t280 t281 t282 w _ ?side1 ?side2 ?side3 A2.out).mono ?_); (case side1 => repeat (first | (with_reducible first | exact HB.out | apply below_alloc | apply pw_below_drewN | apply below_drew1 | refine below_set ?_ GE279.out) | exact HB.out)); (case side2 => exact HR0.out); (case side3 => exact HC0.out); rintro e w8 ⟨g283, rfl, hi, hb, hb2⟩; refine ⟨_, rfl, ?_⟩; replace HB := Aside0.mk (hb); have HI283 := Aside0.mk (hi); have NB283_279 := Aside0.mk (IsS201.ne_blk hi (blk_below (g := gb279) (o := .cells #[.int .i64 0, .int .i64 0, .int .i64 0] 51 (0, 0)) (bk_ BK279) hb2) (by decide)); have NB279_283 := Aside0.mk (Ne.symm (IsS201.ne_blk hi (blk_below (g := gb279) (o := .cells #[.int .i64 0, .int .i64 0, .int .i64 0] 51 (0, 0)) (bk_ BK279) hb2) (by decide))); replace BK279 := Aside0.mk (blk_below (g := gb279) (o := .cells #[.int .i64 0, .int .i64 0, .int .i64 0] 51 (0, 0)) (bk_ BK279) hb2); (try clear hb); (try clear hb2); (try clear hk); (try clear hi)) | ((with_reducible refine gate_callee (f := 110) rfl ?_); refine goesC_ (some 12) Try.func110 #[.pointer (some ⟨g283, 0, none⟩), .int .i64 50] ?_; (with_reducible refine (spec_l01Below.calls g283 t280 t281 t282 50 t284 t285 t286 w _ ?side1 ?side2 A3.out).mono ?_); (case side1 => repeat (first | (with_reducible first | exact HI283.out | apply IsS201.alloc | apply IsS201.drewN | apply IsS201.drew | apply IsS201.set_1 | apply IsS201.set_2 | refine IsS201.far ?_ NB283_279.out _) | exact HI283.out)); (case side2 => repeat (first | (with_reducible first | exact HB.out | apply below_alloc | apply pw_below_drewN | apply below_drew1 | refine below_set ?_ (IsS201.ge HI283.out) | refine below_set ?_ GE279.out) | exact HB.out)); rintro e w9 ⟨rfl, hi, hb, hk⟩; refine ⟨_, rfl, ?_⟩; replace BK279 := Aside0.mk (KeepBut.blk hk (g' := gb279) (o := .cells #[.int .i64 0, .int .i64 0, .int .i64 0] 51 (0, 0)) (bk_ BK279) NB279_283.out (by simp)); replace HB := Aside0.mk (hb); replace HI283 := Aside0.mk (hi); (try clear hb); (try clear hb2); (try clear hk); (try clear hi)) | ((with_reducible refine gate_callee (f := 99) rfl ?_); refine goesC_ (some 14) Try.func99 #[.pointer (some ⟨g283, 0, none⟩)] ?_; (with_reducible refine (spec_l06Creds.calls k g283 t280 t285 t286 t287 t290 t291 w _ ?side1 ?side2 A4.out).mono ?_); (case side1 => repeat (first | (with_reducible first | exact HI283.out | apply IsS201.alloc | apply IsS201.drewN | apply IsS201.drew | apply IsS201.set_1 | apply IsS201.set_2 | refine IsS201.far ?_ NB283_279.out _) | exact HI283.out)); (case side2 => repeat (first | (with_reducible first | exact HB.out | apply below_alloc | apply pw_below_drewN | apply below_drew1 | refine below_set ?_ (IsS201.ge HI283.out) | refine below_set ?_ GE279.out) | exact HB.out)); rintro e w10 ⟨v288, rfl, ho0, hi, hb, hk⟩; refine ⟨_, rfl, ?_⟩; replace BK279 := Aside0.mk (KeepBut.blk hk (g' := gb279) (o := .cells #[.int .i64 0, .int .i64 0, .int .i64 0] 51 (0, 0)) (bk_ BK279) NB279_283.out (by simp)); have HO289 := Aside0.mk (Kd.R_lower ho0 (below_size (by repeat (first | (with_reducible first | exact HB.out | apply below_alloc | apply pw_below_drewN | apply below_drew1 | refine below_set ?_ (IsS201.ge HI283.out) | refine below_set ?_ GE279.out) | exact HB.out)))); replace HB := Aside0.mk (hb); replace HI283 := Aside0.mk (hi); (try clear hb); (try clear hb2); (try clear hk); (try clear hi); (try clear ho0); obtain ⟨Ao11, co11, eo11⟩ := Kd.R_slice HO289.out; subst eo11) | ((with_reducible refine gate_callee (f := 36) rfl ?_); refine goesC_ (some 16) Try.func36 #[.slice Ao11 t287.length co11] ?_; (with_reducible refine (spec_FactsOf.calls k _ _ t287 t292 _ ?side1 ?side2 A5.out).mono ?_); (case side1 => repeat (first | exact (Kd.R_reads' HO289.out).2.2 | (with_reducible refine Kd.C_alloc ?_ _) | (with_reducible refine Kd.C_drewN ?_ _) | (with_reducible refine Kd.C_drew ?_))); (case side2 => exact (Kd.R_reads' HO289.out).2.1); rintro e w12 ⟨v293, rfl, ho0, hb⟩; refine ⟨_, rfl, ?_⟩; replace HO289 := Aside0.mk (Kd.R_below (by (with_reducible repeat (first | apply Kd.R_alloc | apply Kd.R_drewN | apply Kd.R_drew)); exact HO289.out) hb); have HO294 := Aside0.mk (Kd.R_lower (Kd.R_newB ho0 (g := gb279) (o := .cells #[.int .i64 0, .int .i64 0, .int .i64 0] 51 (0, 0)) (bk_ BK279)) (below_size (by repeat (first | (with_reducible first | exact HB.out | apply below_alloc | apply pw_below_drewN | apply below_drew1 | refine below_set ?_ (IsS201.ge HI283.out) | refine below_set ?_ GE279.out) | exact HB.out)))); replace BK279 := bkb_ BK279 hb; replace HB := Aside0.mk (below_step (by repeat (first | (with_reducible first | exact HB.out | apply below_alloc | apply pw_below_drewN | apply below_drew1 | refine below_set ?_ (IsS201.ge HI283.out) | refine below_set ?_ GE279.out) | exact HB.out)) hb); replace HI283 := Aside0.mk (IsS201.below (by repeat (first | (with_reducible first | exact HI283.out | apply IsS201.alloc | apply IsS201.drewN | apply IsS201.drew | apply IsS201.set_1 | apply IsS201.set_2 | refine IsS201.far ?_ NB283_279.out _) | exact HI283.out)) hb); (try clear hb); (try clear hb2); (try clear hk); (try clear hi); (try clear ho0); obtain ⟨Ao13, co13, eo13⟩ := Kd.R_slice HO294.out; subst eo13; have hnb14 := NB279_283.out; have hnc14 := NB283_279.out; have hcz15 := blk_cell BK279.out; have hfz15 := blk_frozen BK279.out))
  refine bodyPost_ret (results_list (rs := [.tmp 2, .cell 3 51, .tmp 4]) rfl (by simp) (.tmp (.cell gb279 51 #[.int .i64 0, .int .i64 0, .int .i64 0] (0, 0) _ rfl (bk_ BK279) Try.underlying51 rfl (by kernel_rfl) (.tmp .nil)))) rfl ?_
  exact ⟨_, eq_, by (with_reducible repeat (first | apply Kd.R_alloc | apply Kd.R_drewN | apply Kd.R_drew)); exact Kd.R_mono (Kd.R_far (p := ⟨gb279, 2, none⟩) (Kd.R_far (p := ⟨gb279, 1, none⟩) (Kd.R_far (p := ⟨gb279, 0, none⟩) (Kd.R_types HO289.out BK279.out (by decide)) (fun _ hk => hk.2) (.int .i64 0)) (fun _ hk => hk.2) (.int .i64 0)) (fun _ hk => hk.2) (.int .i64 0)) (fun _ hk => trivial), by repeat (first | (with_reducible first | exact HB.out | apply below_alloc | apply pw_below_drewN | apply below_drew1 | refine below_set ?_ (IsS201.ge HI283.out) | refine below_set ?_ GE279.out) | exact HB.out)⟩
 ·rw [if_neg c6] at H
  have c6b0 : ((t292.length : Int) == 0) = false := beq_eq_false_iff_ne.mpr c6
  have c6b1 : ((t292.length : Int) != 0) = true := bne_iff_ne.mpr c6
  have c6b2 : ¬ (t292 = []) := fun h_ => c6 (by rw [h_]; rfl)
  obtain ⟨ji16, hji16⟩ : ∃ j_ : Int, (Int.tmod t284 (t292.length : Int)) = j_ := ⟨_, rfl⟩
  replace H : (if 0 ≤ (ji16) then (if (ji16) < (t292.length : Int) then (some (t287, (rd_T51 t292 (ji16)).f0.f0, (rd_T51 t292 (ji16)).f0.f1, (rd_T51 t292 (ji16)).f1, true)) else (none)) else (none)) = some (r1, r2, r3, r4, r5) := by first | (rw [hji16] at H; exact H) | (simp only [hji16] at H ⊢; exact H)
  (try rw [hji16] at A2)
  (try rw [hji16] at A3)
  (try rw [hji16] at A4)
  (try rw [hji16] at A5)
  by_cases c17 : 0 ≤ (ji16)
  ·rw [if_pos c17] at H
   have c17b0 : decide (0 ≤ (ji16)) = true := decide_eq_true c17
   clear c17
   by_cases c18 : (ji16) < (t292.length : Int)
   ·rw [if_pos c18] at H
    have c18b0 : decide ((ji16) < (t292.length : Int)) = true := decide_eq_true c18
    clear c18
    simp only [Option.some.injEq, Prod.mk.injEq] at H
    obtain ⟨rfl, rfl, rfl, rfl, rfl⟩ := H
    go_enter Try.func58, Try.ntmps58
    try go_wp2_with (first | ((with_reducible refine gate_dst (N := 3) rfl ?_); refine box_event ?hg (N := 3) ?hd (cs := #[.int .i64 0, .int .i64 0, .int .i64 0]) (t := 51) ?hr ?_; (case hd => rfl); (case hg => rfl); (case hr => first | (go_simp; done) | (go_simp; rfl)); intro gb279 hg w19 hbox hb; have BK279 := Aside0.mk (hbox); have GW279 := gs_ hg; have GE279 := gs_ hg; replace HB := hbs_ hb; clear hb hbox hg) | ((with_reducible refine gate_callee (f := 100) rfl ?_); refine goesC_ (some 10) Try.func100 #[.slice A0 l0.length c0] ?_; (with_reducible refine (spec_l01New.calls k _ _ l0 t280 t281 t282 w _ ?side1 ?side2 ?side3 A2.out).mono ?_); (case side1 => repeat (first | (with_reducible first | exact HB.out | apply below_alloc | apply pw_below_drewN | apply below_drew1 | refine below_set ?_ GE279.out) | exact HB.out)); (case side2 => exact HR0.out); (case side3 => exact HC0.out); rintro e w20 ⟨g283, rfl, hi, hb, hb2⟩; refine ⟨_, rfl, ?_⟩; replace HB := Aside0.mk (hb); have HI283 := Aside0.mk (hi); have NB283_279 := Aside0.mk (IsS201.ne_blk hi (blk_below (g := gb279) (o := .cells #[.int .i64 0, .int .i64 0, .int .i64 0] 51 (0, 0)) (bk_ BK279) hb2) (by decide)); have NB279_283 := Aside0.mk (Ne.symm (IsS201.ne_blk hi (blk_below (g := gb279) (o := .cells #[.int .i64 0, .int .i64 0, .int .i64 0] 51 (0, 0)) (bk_ BK279) hb2) (by decide))); replace BK279 := Aside0.mk (blk_below (g := gb279) (o := .cells #[.int .i64 0, .int .i64 0, .int .i64 0] 51 (0, 0)) (bk_ BK279) hb2); (try clear hb); (try clear hb2); (try clear hk); (try clear hi)) | ((with_reducible refine gate_callee (f := 110) rfl ?_); refine goesC_ (some 12) Try.func110 #[.pointer (some ⟨g283, 0, none⟩), .int .i64 50] ?_; (with_reducible refine (spec_l01Below.calls g283 t280 t281 t282 50 t284 t285 t286 w _ ?side1 ?side2 A3.out).mono ?_); (case side1 => repeat (first | (with_reducible first | exact HI283.out | apply IsS201.alloc | apply IsS201.drewN | apply IsS201.drew | apply IsS201.set_1 | apply IsS201.set_2 | refine IsS201.far ?_ NB283_279.out _) | exact HI283.out)); (case side2 => repeat (first | (with_reducible first | exact HB.out | apply below_alloc | apply pw_below_drewN | apply below_drew1 | refine below_set ?_ (IsS201.ge HI283.out) | refine below_set ?_ GE279.out) | exact HB.out)); rintro e w21 ⟨rfl, hi, hb, hk⟩; refine ⟨_, rfl, ?_⟩; replace BK279 := Aside0.mk (KeepBut.blk hk (g' := gb279) (o := .cells #[.int .i64 0, .int .i64 0, .int .i64 0] 51 (0, 0)) (bk_ BK279) NB279_283.out (by simp)); replace HB := Aside0.mk (hb); replace HI283 := Aside0.mk (hi); (try clear hb); (try clear hb2); (try clear hk); (try clear hi)) | ((with_reducible refine gate_callee (f := 99) rfl ?_); refine goesC_ (some 14) Try.func99 #[.pointer (some ⟨g283, 0, none⟩)] ?_; (with_reducible refine (spec_l06Creds.calls k g283 t280 t285 t286 t287 t290 t291 w _ ?side1 ?side2 A4.out).mono ?_); (case side1 => repeat (first | (with_reducible first | exact HI283.out | apply IsS201.alloc | apply IsS201.drewN | apply IsS201.drew | apply IsS201.set_1 | apply IsS201.set_2 | refine IsS201.far ?_ NB283_279.out _) | exact HI283.out)); (case side2 => repeat (first | (with_reducible first | exact HB.out | apply below_alloc | apply pw_below_drewN | apply below_drew1 | refine below_set ?_ (IsS201.ge HI283.out) | refine below_set ?_ GE279.out) | exact HB.out)); rintro e w22 ⟨v288, rfl, ho0, hi, hb, hk⟩; refine ⟨_, rfl, ?_⟩; replace BK279 := Aside0.mk (KeepBut.blk hk (g' := gb279) (o := .cells #[.int .i64 0, .int .i64 0, .int .i64 0] 51 (0, 0)) (bk_ BK279) NB279_283.out (by simp)); have HO289 := Aside0.mk (Kd.R_lower ho0 (below_size (by repeat (first | (with_reducible first | exact HB.out | apply below_alloc | apply pw_below_drewN | apply below_drew1 | refine below_set ?_ (IsS201.ge HI283.out) | refine below_set ?_ GE279.out) | exact HB.out)))); replace HB := Aside0.mk (hb); replace HI283 := Aside0.mk (hi); (try clear hb); (try clear hb2); (try clear hk); (try clear hi); (try clear ho0); obtain ⟨Ao23, co23, eo23⟩ := Kd.R_slice HO289.out; subst eo23) | ((with_reducible refine gate_callee (f := 36) rfl ?_); refine goesC_ (some 16) Try.func36 #[.slice Ao23 t287.length co23] ?_; (with_reducible refine (spec_FactsOf.calls k _ _ t287 t292 _ ?side1 ?side2 A5.out).mono ?_); (case side1 => repeat (first | exact (Kd.R_reads' HO289.out).2.2 | (with_reducible refine Kd.C_alloc ?_ _) | (with_reducible refine Kd.C_drewN ?_ _) | (with_reducible refine Kd.C_drew ?_))); (case side2 => exact (Kd.R_reads' HO289.out).2.1); rintro e w24 ⟨v293, rfl, ho0, hb⟩; refine ⟨_, rfl, ?_⟩; replace HO289 := Aside0.mk (Kd.R_below (by (with_reducible repeat (first | apply Kd.R_alloc | apply Kd.R_drewN | apply Kd.R_drew)); exact HO289.out) hb); have HO294 := Aside0.mk (Kd.R_lower (Kd.R_newB ho0 (g := gb279) (o := .cells #[.int .i64 0, .int .i64 0, .int .i64 0] 51 (0, 0)) (bk_ BK279)) (below_size (by repeat (first | (with_reducible first | exact HB.out | apply below_alloc | apply pw_below_drewN | apply below_drew1 | refine below_set ?_ (IsS201.ge HI283.out) | refine below_set ?_ GE279.out) | exact HB.out)))); replace BK279 := bkb_ BK279 hb; replace HB := Aside0.mk (below_step (by repeat (first | (with_reducible first | exact HB.out | apply below_alloc | apply pw_below_drewN | apply below_drew1 | refine below_set ?_ (IsS201.ge HI283.out) | refine below_set ?_ GE279.out) | exact HB.out)) hb); replace HI283 := Aside0.mk (IsS201.below (by repeat (first | (with_reducible first | exact HI283.out | apply IsS201.alloc | apply IsS201.drewN | apply IsS201.drew | apply IsS201.set_1 | apply IsS201.set_2 | refine IsS201.far ?_ NB283_279.out _) | exact HI283.out)) hb); (try clear hb); (try clear hb2); (try clear hk); (try clear hi); (try clear ho0); obtain ⟨Ao25, co25, eo25⟩ := Kd.R_slice HO294.out; subst eo25))
    replace HO289 := Aside0.mk (Kd.R_drew HO289.out)
    replace HO294 := Aside0.mk (Kd.R_drew HO294.out)
    replace BK279 := Aside0.mk (blk_drew BK279.out)
    replace HI283 := Aside0.mk (IsS201.drew HI283.out)
    replace HB := Aside0.mk (below_drew1 HB.out)
    have p295 : 0 ≤ ((ji16) : Int) := of_decide_eq_true (by first | (with_reducible assumption) | assumption)
    have q295 : (ji16) < (t292.length : Int) := of_decide_eq_true (by first | (with_reducible assumption) | assumption)
    obtain ⟨ad295, e295, hx295_0, hx295_1, hx295_2⟩ := at_T51 (Kd.R_reads' HO294.out).2.2 (ji16) p295 q295
    cases e295
    replace p295 := eq_true p295
    replace q295 := eq_true q295
    refine start_ (n := 11) (S := fun w' => w'.cell? (ad295.add (((ji16)).toNat * 3)) = some (.int .i64 ((rd_T51 t292 (ji16)).f0.f0)) ∧ w'.cell? ⟨(ad295.add (((ji16)).toNat * 3)).block, (ad295.add (((ji16)).toNat * 3)).off + 1, none⟩ = some (.int .i64 ((rd_T51 t292 (ji16)).f0.f1)) ∧ w'.cell? ⟨(ad295.add (((ji16)).toNat * 3)).block, (ad295.add (((ji16)).toNat * 3)).off + 2, none⟩ = some (.int .i64 ((rd_T51 t292 (ji16)).f1))) (ds := []) #[false, false, false, false, false, false, false, false, false, false, false] (by kernel_rfl) rfl rfl ⟨hx295_0, hx295_1, hx295_2⟩ (fun hHeld => ?_); refine with_tabW spec_DrawFactOf.tab7 spec_DrawFactOf.bits7 (fun HT_ HW_ => ?_)
    generalize w24.drew = w26 at HO289 HO294 BK279 HI283 HB hx295_0 hx295_1 hx295_2 hHeld ⊢
    refine pureZ_ (i := 0) (some 22) #[true, false, false, false, false, false, false, false, false, false, false] (any_of HT_.out (by kernel_rfl)) ?_
    refine pureZ_ (i := 1) (some 23) #[true, true, false, false, false, false, false, false, false, false, false] (any_of HT_.out (by kernel_rfl)) ?_
    refine pureZ_ (i := 2) (some 24) #[true, true, true, false, false, false, false, false, false, false, false] (any_of HT_.out (by kernel_rfl)) ?_
    refine pureZ_ (i := 3) (some 25) #[true, true, true, true, false, false, false, false, false, false, false] (any_of HT_.out (by kernel_rfl)) ?_
    refine pureZ_ (i := 4) (some 26) #[true, true, true, true, true, false, false, false, false, false, false] (any_of HT_.out (by kernel_rfl)) ?_
    refine pureZ_ (i := 5) (some 27) #[true, true, true, true, true, true, false, false, false, false, false] (any_of HT_.out (by kernel_rfl)) ?_
    refine pureZ_ (i := 6) (some 28) #[true, true, true, true, true, true, true, false, false, false, false] (any_of HT_.out (by kernel_rfl)) ?_
    refine pureZ_ (i := 8) (some 2) #[true, true, true, true, true, true, true, false, true, false, false] (any_of HT_.out (by kernel_rfl)) ?_
    refine takeZ_ (i := 7) (some 29) #[true, true, true, true, true, true, true, true, true, false, false] (take_ofW HT_.out HW_.out (by kernel_rfl)) hHeld ?_
    refine one_ (i := 9) (N := none) #[true, true, true, true, true, true, true, true, true, true, false] rfl rfl (one_of HT_.out (by kernel_rfl)) (by decide) (fun K hK => ?_)
    have hs27 : w26.cell? ⟨gb279, 0, none⟩ = some (.int .i64 0) := (blk_cell BK279.out 0).trans rfl
    have hfs27 := blk_frozen BK279.out 0
    have hs28 : w26.cell? ⟨gb279, 1, none⟩ = some (.int .i64 0) := (blk_cell BK279.out 1).trans rfl
    have hfs28 := blk_frozen BK279.out 1
    have hs29 : w26.cell? ⟨gb279, 2, none⟩ = some (.int .i64 0) := (blk_cell BK279.out 2).trans rfl
    have hfs29 := blk_frozen BK279.out 2
    refine skip_ (w1 := ?_) (by rfl) rfl ?_ ?_
    rotate_left
    ·go_simp
     rfl
    refine hK.out _ _ ⟨((cell_far (p := ⟨gb279, _, none⟩) (by first | exact Kd.own_blk (Kd.R_away HO294.out (fun _ hk => hk.2)) | (rw [add_block]; exact Kd.own_blk (Kd.R_away HO294.out (fun _ hk => hk.2))) | (show (Addr.add _ _).block ≠ _; rw [add_block]; exact Kd.own_blk (Kd.R_away HO294.out (fun _ hk => hk.2))) | (dsimp only; exact Kd.own_blk (Kd.R_away HO294.out (fun _ hk => hk.2)))) _).trans (((cell_far (p := ⟨gb279, _, none⟩) (by first | exact Kd.own_blk (Kd.R_away HO294.out (fun _ hk => hk.2)) | (rw [add_block]; exact Kd.own_blk (Kd.R_away HO294.out (fun _ hk => hk.2))) | (show (Addr.add _ _).block ≠ _; rw [add_block]; exact Kd.own_blk (Kd.R_away HO294.out (fun _ hk => hk.2))) | (dsimp only; exact Kd.own_blk (Kd.R_away HO294.out (fun _ hk => hk.2)))) _).trans (((cell_far (p := ⟨gb279, _, none⟩) (by first | exact Kd.own_blk (Kd.R_away HO294.out (fun _ hk => hk.2)) | (rw [add_block]; exact Kd.own_blk (Kd.R_away HO294.out (fun _ hk => hk.2))) | (show (Addr.add _ _).block ≠ _; rw [add_block]; exact Kd.own_blk (Kd.R_away HO294.out (fun _ hk => hk.2))) | (dsimp only; exact Kd.own_blk (Kd.R_away HO294.out (fun _ hk => hk.2)))) _).trans (hHeld.1)))))), ((cell_far (p := ⟨gb279, _, none⟩) (by first | exact Kd.own_blk (Kd.R_away HO294.out (fun _ hk => hk.2)) | (rw [add_block]; exact Kd.own_blk (Kd.R_away HO294.out (fun _ hk => hk.2))) | (show (Addr.add _ _).block ≠ _; rw [add_block]; exact Kd.own_blk (Kd.R_away HO294.out (fun _ hk => hk.2))) | (dsimp only; exact Kd.own_blk (Kd.R_away HO294.out (fun _ hk => hk.2)))) _).trans (((cell_far (p := ⟨gb279, _, none⟩) (by first | exact Kd.own_blk (Kd.R_away HO294.out (fun _ hk => hk.2)) | (rw [add_block]; exact Kd.own_blk (Kd.R_away HO294.out (fun _ hk => hk.2))) | (show (Addr.add _ _).block ≠ _; rw [add_block]; exact Kd.own_blk (Kd.R_away HO294.out (fun _ hk => hk.2))) | (dsimp only; exact Kd.own_blk (Kd.R_away HO294.out (fun _ hk => hk.2)))) _).trans (((cell_far (p := ⟨gb279, _, none⟩) (by first | exact Kd.own_blk (Kd.R_away HO294.out (fun _ hk => hk.2)) | (rw [add_block]; exact Kd.own_blk (Kd.R_away HO294.out (fun _ hk => hk.2))) | (show (Addr.add _ _).block ≠ _; rw [add_block]; exact Kd.own_blk (Kd.R_away HO294.out (fun _ hk => hk.2))) | (dsimp only; exact Kd.own_blk (Kd.R_away HO294.out (fun _ hk => hk.2)))) _).trans (hHeld.2.1)))))), ((cell_far (p := ⟨gb279, _, none⟩) (by first | exact Kd.own_blk (Kd.R_away HO294.out (fun _ hk => hk.2)) | (rw [add_block]; exact Kd.own_blk (Kd.R_away HO294.out (fun _ hk => hk.2))) | (show (Addr.add _ _).block ≠ _; rw [add_block]; exact Kd.own_blk (Kd.R_away HO294.out (fun _ hk => hk.2))) | (dsimp only; exact Kd.own_blk (Kd.R_away HO294.out (fun _ hk => hk.2)))) _).trans (((cell_far (p := ⟨gb279, _, none⟩) (by first | exact Kd.own_blk (Kd.R_away HO294.out (fun _ hk => hk.2)) | (rw [add_block]; exact Kd.own_blk (Kd.R_away HO294.out (fun _ hk => hk.2))) | (show (Addr.add _ _).block ≠ _; rw [add_block]; exact Kd.own_blk (Kd.R_away HO294.out (fun _ hk => hk.2))) | (dsimp only; exact Kd.own_blk (Kd.R_away HO294.out (fun _ hk => hk.2)))) _).trans (((cell_far (p := ⟨gb279, _, none⟩) (by first | exact Kd.own_blk (Kd.R_away HO294.out (fun _ hk => hk.2)) | (rw [add_block]; exact Kd.own_blk (Kd.R_away HO294.out (fun _ hk => hk.2))) | (show (Addr.add _ _).block ≠ _; rw [add_block]; exact Kd.own_blk (Kd.R_away HO294.out (fun _ hk => hk.2))) | (dsimp only; exact Kd.own_blk (Kd.R_away HO294.out (fun _ hk => hk.2)))) _).trans (hHeld.2.2))))))⟩ (fun hHeld => ?_)
    clear hK K
    refine pureZ_ (i := 10) (some 4) #[true, true, true, true, true, true, true, true, true, true, true] (any_of HT_.out (by kernel_rfl)) ?_
    refine done_ (done_of HT_.out (by kernel_rfl)) ?_
    try go_wp2
    refine bodyPost_ret (results_list (rs := [.tmp 2, .cell 3 51, .tmp 4]) rfl (by simp) (.tmp (.cell gb279 51 #[.int .i64 ((rd_T51 t292 (ji16)).f0.f0), .int .i64 ((rd_T51 t292 (ji16)).f0.f1), .int .i64 ((rd_T51 t292 (ji16)).f1)] (0, 0) _ rfl (bk_ BK279) Try.underlying51 rfl (by kernel_rfl) (.tmp .nil)))) rfl ?_
    exact ⟨_, by first | rfl | (simp [errW_none, errW_some] <;> rfl) | (simp only [← hji16]; first | rfl | (simp [errW_none, errW_some] <;> rfl)) | (simp [*, errW_none, errW_some] <;> rfl), by (with_reducible repeat (first | apply Kd.R_alloc | apply Kd.R_drewN | apply Kd.R_drew)); exact Kd.R_mono (Kd.R_far (p := ⟨gb279, 2, none⟩) (Kd.R_far (p := ⟨gb279, 1, none⟩) (Kd.R_far (p := ⟨gb279, 0, none⟩) (Kd.R_types HO289.out BK279.out (by decide)) (fun _ hk => hk.2) (.int .i64 ((rd_T51 t292 (ji16)).f0.f0))) (fun _ hk => hk.2) (.int .i64 ((rd_T51 t292 (ji16)).f0.f1))) (fun _ hk => hk.2) (.int .i64 ((rd_T51 t292 (ji16)).f1))) (fun _ hk => trivial), by repeat (first | (with_reducible first | exact HB.out | apply below_alloc | apply pw_below_drewN | apply below_drew1 | refine below_set ?_ (IsS201.ge HI283.out) | refine below_set ?_ GE279.out) | exact HB.out)⟩
   ·rw [if_neg c18] at H
    exact absurd H (by simp)
  ·rw [if_neg c17] at H
   exact absurd H (by simp)
def spec_DrawPlaces.l0 : Nat → List Int → Int → List Int → Int → Int → Option (List Int)
 | 0, _, _, _, _, _ => none
 | k + 1, x4, x5, x300000, x300001, x300002 => if x5 < 12 then ((spec_l01Below.f x300000 x300001 x300002 10000).bind fun bt306 => (if x4.length < 17592186044416 then (spec_DrawPlaces.l0 k (x4 ++ [bt306.1]) (wrap64 (x5 + 1)) x300000 bt306.2.1 bt306.2.2) else (none))) else (some x4)
def spec_DrawPlaces.f (k : Nat) (l0 : List Int) : Option (List Int) := (spec_l01New.f k l0).bind fun bt296 => ((spec_l01Byte.f bt296.1 bt296.2.1 bt296.2.2).bind fun bt300 => (spec_DrawPlaces.l0 k (([] : List Int)) 0 bt296.1 bt300.2.1 bt300.2.2))
set_option maxHeartbeats 8000000 in
set_option maxRecDepth 100000 in
theorem spec_DrawPlaces.calls (k : Nat) (A0 : Option Addr) (c0 : Nat) (l0 : List Int) (r : List Int) (w : World) (hr0 : Kd.C (Kd.int .u8) w A0 l0.length l0) (hc0 : l0.length ≤ c0) (h : spec_DrawPlaces.f k l0 = some r) :
  Calls Try.prog 59 #[.slice A0 l0.length c0] w fun e w' => ∃ v0_ : Value, e = .returned (v0_) ∧ Kd.R (Kd.int .i64) 3 w' w.heap.size (fun _ => True) v0_ r ∧ Below w.heap.size w w' := by
 have HR0 := Aside0.mk hr0
 have HC0 := Aside0.mk hc0
 clear hr0 hc0
 have HB := Aside0.mk (Below.refl w.heap.size w)
 have H : ((spec_l01New.f k l0).bind fun bt296 => ((spec_l01Byte.f bt296.1 bt296.2.1 bt296.2.2).bind fun bt300 => (spec_DrawPlaces.l0 k (([] : List Int)) 0 bt296.1 bt300.2.1 bt300.2.2))) = some r := h
 clear h
 obtain ⟨⟨t296, t297, t298⟩, A2, H⟩ := bindE_ H
 replace H : ((spec_l01Byte.f t296 t297 t298).bind fun bt300 => (spec_DrawPlaces.l0 k (([] : List Int)) 0 t296 bt300.2.1 bt300.2.2)) = some r := H
 obtain ⟨⟨t300, t301, t302⟩, A3, H⟩ := bindE_ H
 replace H : (spec_DrawPlaces.l0 k (([] : List Int)) 0 t296 t301 t302) = some r := H
 obtain ⟨y303, hy303⟩ : ∃ y_ : List Int, y_ = (([] : List Int)) := ⟨_, rfl⟩
 replace H : (spec_DrawPlaces.l0 k y303 0 t296 t301 t302) = some r := by first | (rw [hy303]; with_reducible exact H) | (have H2_ := (Option.bind_some _ _).symm.trans H; rw [hy303]; with_reducible exact H2_) | (have H2_ := (Option.bind_some _ _).symm.trans H; with_reducible exact H2_) | with_reducible exact H | (rw [hy303]; exact H) | exact H
 have Ny303 := Aside0.mk hy303
 clear hy303
 have H' := Aside0.mk H
 clear H
 go_enter Try.func59, Try.ntmps59
 go_wp2_with (first | ((with_reducible refine gate_callee (f := 100) rfl ?_); refine goesC_ (some 7) Try.func100 #[.slice A0 l0.length c0] ?_; (with_reducible refine (spec_l01New.calls k _ _ l0 t296 t297 t298 w _ ?side1 ?side2 ?side3 A2.out).mono ?_); (case side1 => repeat (first | (with_reducible first | exact HB.out | apply below_alloc | apply pw_below_drewN | apply below_drew1) | exact HB.out)); (case side2 => exact HR0.out); (case side3 => exact HC0.out); rintro e w4 ⟨g299, rfl, hi, hb, hb2⟩; refine ⟨_, rfl, ?_⟩; replace HB := Aside0.mk (hb); have HI299 := Aside0.mk (hi); (try clear hb); (try clear hb2); (try clear hk); (try clear hi)) | ((with_reducible refine gate_callee (f := 130) rfl ?_); refine goesC_ (some 9) Try.func130 #[.pointer (some ⟨g299, 0, none⟩)] ?_; (with_reducible refine (spec_l01Byte.calls g299 t296 t297 t298 t300 t301 t302 w _ ?side1 ?side2 A3.out).mono ?_); (case side1 => repeat (first | (with_reducible first | exact HI299.out | apply IsS201.alloc | apply IsS201.drewN | apply IsS201.drew | apply IsS201.set_1 | apply IsS201.set_2) | exact HI299.out)); (case side2 => repeat (first | (with_reducible first | exact HB.out | apply below_alloc | apply pw_below_drewN | apply below_drew1 | refine below_set ?_ (IsS201.ge HI299.out)) | exact HB.out)); rintro e w5 ⟨rfl, hi, hb, hk⟩; refine ⟨_, rfl, ?_⟩; replace HB := Aside0.mk (hb); replace HI299 := Aside0.mk (hi); (try clear hb); (try clear hb2); (try clear hk); (try clear hi)) | ((with_reducible refine gate_dst (N := 10) rfl ?_); refine Kd.R_lit (Kd.int .i64) _ 3 ?hg (N := 10) ?hd (xs := ([] : List Int)) (inner := []) (ok := fun _ => True) (okp := fun _ => True) ?hr ?hp (fun _ hk => hk) trivial (Below.refl _ _) (Nat.le_refl _) (by simp) ?_; (case hd => rfl); (case hg => rfl); (case hr => first | (go_simp; done) | (go_simp; rfl)); (case hp => exact (Reps.none _ _)); intro v304 w6 ho7 hb hg_ hnew_; clear hg_ hnew_; (first | rw [← Ny303.out] at ho7 | (simp only [Int.reduceToNat] at ho7; rw [← Ny303.out] at ho7)); have HO305 := Aside0.mk (Kd.R_lower ho7 (below_size (by repeat (first | (with_reducible first | exact HB.out | apply below_alloc | apply pw_below_drewN | apply below_drew1 | refine below_set ?_ (IsS201.ge HI299.out)) | exact HB.out)))); replace HB := Aside0.mk (below_step (by repeat (first | (with_reducible first | exact HB.out | apply below_alloc | apply pw_below_drewN | apply below_drew1 | refine below_set ?_ (IsS201.ge HI299.out)) | exact HB.out)) hb); replace HI299 := Aside0.mk (IsS201.below (by repeat (first | (with_reducible first | exact HI299.out | apply IsS201.alloc | apply IsS201.drewN | apply IsS201.drew | apply IsS201.set_1 | apply IsS201.set_2) | exact HI299.out)) hb); clear hb ho7))
 go_loopg [4, 5] k (fun kq v4 v5 w' => ∃ (x4_1 : List Int) (x5_1 : Int) (x300001_1 : Int) (x300002_1 : Int), v5 = .int .i64 x5_1 ∧ Aside0 (spec_DrawPlaces.l0 kq x4_1 x5_1 t296 x300001_1 x300002_1 = some r) ∧ Aside0 (kq ≤ k) ∧ Aside0 (Kd.R (Kd.int .i64) 3 w' w.heap.size (fun _ => True) v4 x4_1) ∧ Aside0 (IsS201 w w' g299 t296 x300001_1 x300002_1) ∧ Aside0 (Below w.heap.size w w'))
 case atStart => exact ⟨(y303), (0), (t301), (t302), (by first | rfl | (simp; done) | (simp [*]; done)), H', ⟨Nat.le_refl _⟩, ⟨by (with_reducible repeat (first | apply Kd.R_alloc | apply Kd.R_drewN | apply Kd.R_drew)); exact HO305.out⟩, ⟨by repeat (first | (with_reducible first | exact HI299.out | apply IsS201.alloc | apply IsS201.drewN | apply IsS201.drew | apply IsS201.set_1 | apply IsS201.set_2) | exact HI299.out)⟩, ⟨by repeat (first | (with_reducible first | exact HB.out | apply below_alloc | apply pw_below_drewN | apply below_drew1 | refine below_set ?_ (IsS201.ge HI299.out)) | exact HB.out)⟩⟩
 case round =>
  clear H'
  try clear c1
  try clear p2
  try clear c5
  obtain ⟨x4_1, x5_1, x300001_1, x300002_1, rfl, HA, HK1, HO_4, HI299, HB⟩ := hrel
  cases gk with
  | zero => exact absurd HA.out (by simp [spec_DrawPlaces.l0])
  | succ k1 =>
   have H := HA.out
   clear HA
   simp only [spec_DrawPlaces.l0] at H
   by_cases c8 : x5_1 < 12
   ·rw [if_pos c8] at H
    have c8b0 : decide (x5_1 < 12) = true := decide_eq_true c8
    clear c8
    obtain ⟨⟨t306, t307, t308⟩, A9, H⟩ := bindE_ H
    replace H : (if x4_1.length < 17592186044416 then (spec_DrawPlaces.l0 k1 (x4_1 ++ [t306]) (wrap64 (x5_1 + 1)) t296 t307 t308) else (none)) = some r := H
    by_cases c10 : x4_1.length < 17592186044416
    ·rw [if_pos c10] at H
     have LMc10 := Aside0.mk c10
     clear c10
     obtain ⟨y309, hy309⟩ : ∃ y_ : List Int, y_ = (x4_1 ++ [t306]) := ⟨_, rfl⟩
     replace H : (spec_DrawPlaces.l0 k1 y309 (wrap64 (x5_1 + 1)) t296 t307 t308) = some r := by first | (rw [hy309]; with_reducible exact H) | (have H2_ := (Option.bind_some _ _).symm.trans H; rw [hy309]; with_reducible exact H2_) | (have H2_ := (Option.bind_some _ _).symm.trans H; with_reducible exact H2_) | with_reducible exact H | (rw [hy309]; exact H) | exact H
     have Ny309 := Aside0.mk hy309
     clear hy309
     have H' := Aside0.mk H
     clear H
     go_wp2_with (first | ((with_reducible refine gate_callee (f := 110) rfl ?_); refine goesC_ (some 17) Try.func110 #[.pointer (some ⟨g299, 0, none⟩), .int .i64 10000] ?_; (with_reducible refine (spec_l01Below.calls g299 t296 x300001_1 x300002_1 10000 t306 t307 t308 w _ ?side1 ?side2 A9.out).mono ?_); (case side1 => repeat (first | (with_reducible first | exact HI299.out | apply IsS201.alloc | apply IsS201.drewN | apply IsS201.drew | apply IsS201.set_1 | apply IsS201.set_2) | exact HI299.out)); (case side2 => repeat (first | (with_reducible first | exact HB.out | apply below_alloc | apply pw_below_drewN | apply below_drew1 | refine below_set ?_ (IsS201.ge HI299.out)) | exact HB.out)); rintro e w11 ⟨rfl, hi, hb, hk⟩; refine ⟨_, rfl, ?_⟩; replace HO_4 := Aside0.mk (Kd.R_mono (Kd.R_keep (IsS201.apart (show IsS201 w _ g299 t296 x300001_1 x300002_1 from by repeat (first | (with_reducible first | exact HI299.out | apply IsS201.alloc | apply IsS201.drewN | apply IsS201.drew | apply IsS201.set_1 | apply IsS201.set_2) | exact HI299.out)) (by (with_reducible repeat (first | apply Kd.R_alloc | apply Kd.R_drewN | apply Kd.R_drew)); exact HO_4.out) (by decide)) hk (fun _ h => h.2)) (fun _ h => h.1)); replace HB := Aside0.mk (hb); replace HI299 := Aside0.mk (hi); (try clear hb); (try clear hb2); (try clear hk); (try clear hi)) | ((with_reducible refine gate_builtin (b := .append) (xs := #[.tmp 15, .tmp 18]) rfl ?_); at_builtin; refine Kd.R_append (Kd.int .i64) (w0 := w) w.heap.size rfl (.tmp 15) (.tmp 18) 39 3 (.int .i64 0) 8 rfl Try.underlying39 info3 rfl (by decide) (by omega) u4 x4_1 t306 [.int .i64 t306] (fun _ => True) (fun _ => False) rfl rfl ?aP (fun _ hk => hk.elim) ?aF ?aO ?aB ?aS ?aL ?_; (case aP => exact rfl); (case aB => exact (by repeat (first | (with_reducible first | exact HB.out | apply below_alloc | apply pw_below_drewN | apply below_drew1 | refine below_set ?_ (IsS201.ge HI299.out)) | exact HB.out))); (case aF => exact (fun _ _ => trivial)); (case aO => exact (by (with_reducible repeat (first | apply Kd.R_alloc | apply Kd.R_drewN | apply Kd.R_drew)); exact HO_4.out)); (case aS => exact (below_size (by repeat (first | (with_reducible first | exact HB.out | apply below_alloc | apply pw_below_drewN | apply below_drew1 | refine below_set ?_ (IsS201.ge HI299.out)) | exact HB.out)))); (case aL => have := LMc10.out; omega); intro v310 w12 ho hb hg hat; rw [← Ny309.out] at ho; replace HI299 := Aside0.mk (IsS201.grown (show IsS201 w _ g299 t296 t307 t308 from by repeat (first | (with_reducible first | exact HI299.out | apply IsS201.alloc | apply IsS201.drewN | apply IsS201.drew | apply IsS201.set_1 | apply IsS201.set_2) | exact HI299.out)) hg (IsS201.own_ne HI299.out HO_4.out (by decide))); replace HB := Aside0.mk (hb); have HO311 := Aside0.mk (ho); clear HO_4; clear ho hb hg hat))
     go_roundg k1
     case measure => have := HK1.out; omega
     case rel => exact ⟨(y309), (wrap64 (x5_1 + 1)), (t307), (t308), (by first | rfl | (simp; done) | (simp [*]; done)), H', ⟨by have := HK1.out; omega⟩, ⟨by (with_reducible repeat (first | apply Kd.R_alloc | apply Kd.R_drewN | apply Kd.R_drew)); exact HO311.out⟩, ⟨by repeat (first | (with_reducible first | exact HI299.out | apply IsS201.alloc | apply IsS201.drewN | apply IsS201.drew | apply IsS201.set_1 | apply IsS201.set_2) | exact HI299.out)⟩, ⟨by repeat (first | (with_reducible first | exact HB.out | apply below_alloc | apply pw_below_drewN | apply below_drew1 | refine below_set ?_ (IsS201.ge HI299.out)) | exact HB.out)⟩⟩
    ·rw [if_neg c10] at H
     exact absurd H (by simp)
   ·rw [if_neg c8] at H
    have c8b0 : decide (x5_1 < 12) = false := decide_eq_false c8
    clear c8
    obtain rfl := Option.some.inj H
    go_wp2
    go_ret
    exact ⟨_, eq_, by (with_reducible repeat (first | apply Kd.R_alloc | apply Kd.R_drewN | apply Kd.R_drew)); exact HO_4.out, by repeat (first | (with_reducible first | exact HB.out | apply below_alloc | apply pw_below_drewN | apply below_drew1 | refine below_set ?_ (IsS201.ge HI299.out)) | exact HB.out)⟩
def impl_Fact_102.l0 : Nat → List (S51) → Int → Int → Int → Int → Int → Option (Int)
 | 0, _, _, _, _, _, _ => none
 | k + 1, x0, x7, x8, x313000, x313001, x313002 => if x8 < x7 then (if 0 ≤ x8 then (if x8 < (x0.length : Int) then (if ((x313000 == ((rd_T51 x0 x8).f0.f0) && (x313001 == ((rd_T51 x0 x8).f0.f1))) && (x313002 == ((rd_T51 x0 x8).f1))) = true then (some x8) else (impl_Fact_102.l0 k x0 x7 (wrap64 (x8 + 1)) x313000 x313001 x313002)) else (none)) else (none)) else (some (-1))
def impl_Fact_102.f (k : Nat) (l0 : List (S51)) (a1_0 : Int) (a1_1 : Int) (a1_2 : Int) : Option (Int) := impl_Fact_102.l0 k l0 (l0.length : Int) 0 a1_0 a1_1 a1_2
set_option maxHeartbeats 8000000 in
set_option maxRecDepth 100000 in
theorem impl_Fact_102.calls (k : Nat) (A0 : Option Addr) (c0 : Nat) (l0 : List (S51)) (a1_0 : Int) (a1_1 : Int) (a1_2 : Int) (r : Int) (w : World) (hr0 : Kd.C k51 w A0 l0.length l0) (hc0 : l0.length ≤ c0) (h : impl_Fact_102.f k l0 a1_0 a1_1 a1_2 = some r) :
  Calls Try.prog 102 #[.slice A0 l0.length c0, .agg #[.int .i64 a1_0, .int .i64 a1_1, .int .i64 a1_2]] w fun e w' => e = .returned (.int .i64 r) ∧ Below w.heap.size w w' := by
 have hu51 := Try.underlying51
 have HR0 := Aside0.mk hr0
 have HC0 := Aside0.mk hc0
 clear hr0 hc0
 have HB := Aside0.mk (Below.refl w.heap.size w)
 have H : (impl_Fact_102.l0 k l0 (l0.length : Int) 0 a1_0 a1_1 a1_2) = some r := h
 clear h
 have H' := Aside0.mk H
 clear H
 go_enter Try.func102, Try.ntmps102
 go_wp2_with (first | ((with_reducible refine gate_dst (N := 3) rfl ?_); refine box_event ?hg (N := 3) ?hd (cs := #[.int .i64 a1_0, .int .i64 a1_1, .int .i64 a1_2]) (t := 51) ?hr ?_; (case hd => rfl); (case hg => rfl); (case hr => first | (go_simp; done) | (go_simp; rfl)); intro gb312 hg w3 hbox hb; have BK312 := Aside0.mk (hbox); have GW312 := gs_ hg; have GE312 := gs_ hg; replace HB := hbs_ hb; clear hb hbox hg))
 repeat (go_quiet (first | ((with_reducible refine gate_dst (N := 3) rfl ?_); refine box_event ?hg (N := 3) ?hd (cs := #[.int .i64 a1_0, .int .i64 a1_1, .int .i64 a1_2]) (t := 51) ?hr ?_; (case hd => rfl); (case hg => rfl); (case hr => first | (go_simp; done) | (go_simp; rfl)); intro gb312 hg w3 hbox hb; have BK312 := Aside0.mk (hbox); have GW312 := gs_ hg; have GE312 := gs_ hg; replace HB := hbs_ hb; clear hb hbox hg)); try go_wp2_with (first | ((with_reducible refine gate_dst (N := 3) rfl ?_); refine box_event ?hg (N := 3) ?hd (cs := #[.int .i64 a1_0, .int .i64 a1_1, .int .i64 a1_2]) (t := 51) ?hr ?_; (case hd => rfl); (case hg => rfl); (case hr => first | (go_simp; done) | (go_simp; rfl)); intro gb312 hg w3 hbox hb; have BK312 := Aside0.mk (hbox); have GW312 := gs_ hg; have GE312 := gs_ hg; replace HB := hbs_ hb; clear hb hbox hg)))
 go_loopg [8] k (fun kq v8 w' => ∃ (x8_1 : Int), v8 = .int .i64 x8_1 ∧ Aside0 (impl_Fact_102.l0 kq l0 (l0.length : Int) x8_1 a1_0 a1_1 a1_2 = some r) ∧ Aside0 (kq ≤ k) ∧ Aside0 (w'.heap[gb312]? = some (.cells #[.int .i64 a1_0, .int .i64 a1_1, .int .i64 a1_2] 51 (0, 0))) ∧ Aside0 (Below w.heap.size w w'))
 case atStart => exact ⟨(0), (by first | rfl | (simp; done) | (simp [*]; done)), H', ⟨Nat.le_refl _⟩, ⟨bk_ BK312⟩, ⟨bl_⟩⟩
 case round =>
  clear H'
  try clear c1
  try clear p2
  obtain ⟨x8_1, rfl, HA, HK1, BK312, HB⟩ := hrel
  cases gk with
  | zero => exact absurd HA.out (by simp [impl_Fact_102.l0])
  | succ k1 =>
   have H := HA.out
   clear HA
   simp only [impl_Fact_102.l0] at H
   by_cases c4 : x8_1 < (l0.length : Int)
   ·rw [if_pos c4] at H
    have c4b0 : decide (x8_1 < (l0.length : Int)) = true := decide_eq_true c4
    clear c4
    by_cases c5 : 0 ≤ x8_1
    ·rw [if_pos c5] at H
     have c5b0 : decide (0 ≤ x8_1) = true := decide_eq_true c5
     clear c5
     by_cases c6 : x8_1 < (l0.length : Int)
     ·rw [if_pos c6] at H
      have c6b0 : decide (x8_1 < (l0.length : Int)) = true := decide_eq_true c6
      clear c6
      by_cases c7 : ((a1_0 == ((rd_T51 l0 x8_1).f0.f0) && (a1_1 == ((rd_T51 l0 x8_1).f0.f1))) && (a1_2 == ((rd_T51 l0 x8_1).f1))) = true
      ·rw [if_pos c7] at H
       have c7b0 : ((a1_0 == ((rd_T51 l0 x8_1).f0.f0) && (a1_1 == ((rd_T51 l0 x8_1).f0.f1))) && (a1_2 == ((rd_T51 l0 x8_1).f1))) = true := c7
       clear c7
       obtain rfl := Option.some.inj H
       have hcz8 := blk_cell BK312.out
       have hfz8 := blk_frozen BK312.out
       have p313 : 0 ≤ (x8_1 : Int) := of_decide_eq_true (by first | (with_reducible assumption) | assumption)
       have q313 : x8_1 < (l0.length : Int) := of_decide_eq_true (by first | (with_reducible assumption) | assumption)
       obtain ⟨ad313, e313, hx313_0, hx313_1, hx313_2⟩ := at_T51 (Kd.C_below HR0.out HB.out) x8_1 p313 q313
       cases e313
       replace p313 := eq_true p313
       replace q313 := eq_true q313
       go_wp2
       repeat (go_quiet (fail); try go_wp2)
       go_ret
       exact ⟨eq_, bl_⟩
      ·rw [if_neg c7] at H
       have c7b0 : ((a1_0 == ((rd_T51 l0 x8_1).f0.f0) && (a1_1 == ((rd_T51 l0 x8_1).f0.f1))) && (a1_2 == ((rd_T51 l0 x8_1).f1))) = false := by simpa using c7
       clear c7
       have H' := Aside0.mk H
       clear H
       have hcz9 := blk_cell BK312.out
       have hfz9 := blk_frozen BK312.out
       have p313 : 0 ≤ (x8_1 : Int) := of_decide_eq_true (by first | (with_reducible assumption) | assumption)
       have q313 : x8_1 < (l0.length : Int) := of_decide_eq_true (by first | (with_reducible assumption) | assumption)
       obtain ⟨ad313, e313, hx313_0, hx313_1, hx313_2⟩ := at_T51 (Kd.C_below HR0.out HB.out) x8_1 p313 q313
       cases e313
       replace p313 := eq_true p313
       replace q313 := eq_true q313
       go_wp2
       repeat (go_quiet (fail); try go_wp2)
       go_roundg k1
       case measure => have := HK1.out; omega
       case rel => exact ⟨(wrap64 (x8_1 + 1)), (by first | rfl | (simp; done) | (simp [*]; done)), H', ⟨by have := HK1.out; omega⟩, ⟨bk_ BK312⟩, ⟨bl_⟩⟩
     ·rw [if_neg c6] at H
      exact absurd H (by simp)
    ·rw [if_neg c5] at H
     exact absurd H (by simp)
   ·rw [if_neg c4] at H
    have c4b0 : decide (x8_1 < (l0.length : Int)) = false := decide_eq_false c4
    clear c4
    obtain rfl := Option.some.inj H
    go_wp2
    repeat (go_quiet (fail); try go_wp2)
    go_ret
    exact ⟨eq_, bl_⟩
def impl_Fact_119.f (k : Nat) (l0 : List (S51)) (a1_0 : Int) (a1_1 : Int) (a1_2 : Int) : Option (Bool) := (impl_Fact_102.f k l0 a1_0 a1_1 a1_2).bind fun t315 => (some (decide (t315 ≥ 0)))
set_option maxHeartbeats 8000000 in
set_option maxRecDepth 100000 in
theorem impl_Fact_119.calls (k : Nat) (A0 : Option Addr) (c0 : Nat) (l0 : List (S51)) (a1_0 : Int) (a1_1 : Int) (a1_2 : Int) (r : Bool) (w : World) (hr0 : Kd.C k51 w A0 l0.length l0) (hc0 : l0.length ≤ c0) (h : impl_Fact_119.f k l0 a1_0 a1_1 a1_2 = some r) :
  Calls Try.prog 119 #[.slice A0 l0.length c0, .agg #[.int .i64 a1_0, .int .i64 a1_1, .int .i64 a1_2]] w fun e w' => e = .returned (.bool r) ∧ Below w.heap.size w w' := by
 have hu51 := Try.underlying51
 have HR0 := Aside0.mk hr0
 have HC0 := Aside0.mk hc0
 clear hr0 hc0
 have HB := Aside0.mk (Below.refl w.heap.size w)
 have H : ((impl_Fact_102.f k l0 a1_0 a1_1 a1_2).bind fun t315 => (some (decide (t315 ≥ 0)))) = some r := h
 clear h
 obtain ⟨t315, A3, H⟩ := bindE_ H
 obtain rfl := Option.some.inj H
 go_enter Try.func119, Try.ntmps119
 go_wp2_with (first | ((with_reducible refine gate_dst (N := 3) rfl ?_); refine box_event ?hg (N := 3) ?hd (cs := #[.int .i64 a1_0, .int .i64 a1_1, .int .i64 a1_2]) (t := 51) ?hr ?_; (case hd => rfl); (case hg => rfl); (case hr => first | (go_simp; done) | (go_simp; rfl)); intro gb314 hg w4 hbox hb; have BK314 := Aside0.mk (hbox); have GW314 := gs_ hg; have GE314 := gs_ hg; replace HB := hbs_ hb; clear hb hbox hg; have hcz5 := blk_cell BK314.out; have hfz5 := blk_frozen BK314.out) | ((with_reducible refine gate_callee (f := 102) rfl ?_); refine goesC_ (some 7) Try.func102 #[.slice A0 l0.length c0, .agg #[.int .i64 a1_0, .int .i64 a1_1, .int .i64 a1_2]] ?_; (with_reducible refine (impl_Fact_102.calls k _ _ l0 a1_0 a1_1 a1_2 t315 _ ?side1 ?side2 A3.out).mono ?_); (case side1 => repeat (first | exact (Kd.C_below HR0.out HB.out) | (with_reducible refine Kd.C_alloc ?_ _) | (with_reducible refine Kd.C_drewN ?_ _) | (with_reducible refine Kd.C_drew ?_))); (case side2 => exact HC0.out); rintro e w6 ⟨rfl, hb⟩; refine ⟨_, rfl, ?_⟩; replace BK314 := bkb_ BK314 hb; replace HB := hbs_ hb; clear hb))
 go_ret
 exact ⟨eq_, bl_⟩
-- NOT PRINTED: function 203 (impl_derive_1)
def impl_factOk.f (a0_0 : Int) (a0_1 : Int) (a0_2 : Int) : Option (Bool) := (impl_RoleOk.f a0_0 a0_1).bind fun t317 => (if t317 = true then ((impl_isPerson.f a0_2).bind fun t318 => (some t318)) else (some false))
set_option maxHeartbeats 8000000 in
set_option maxRecDepth 100000 in
theorem impl_factOk.calls (a0_0 : Int) (a0_1 : Int) (a0_2 : Int) (r : Bool) (w : World) (h : impl_factOk.f a0_0 a0_1 a0_2 = some r) :
  Calls Try.prog 227 #[.agg #[.int .i64 a0_0, .int .i64 a0_1, .int .i64 a0_2]] w fun e w' => e = .returned (.bool r) ∧ Below w.heap.size w w' := by
 have hu51 := Try.underlying51
 have hu49 := Try.underlying49
 have HB := Aside0.mk (Below.refl w.heap.size w)
 have H : ((impl_RoleOk.f a0_0 a0_1).bind fun t317 => (if t317 = true then ((impl_isPerson.f a0_2).bind fun t318 => (some t318)) else (some false))) = some r := h
 clear h
 obtain ⟨t317, A2, H⟩ := bindE_ H
 by_cases c3 : t317 = true
 ·subst c3
  replace H := ite_t_ H
  obtain ⟨t318, A4, H⟩ := bindE_ H
  obtain rfl := Option.some.inj H
  go_enter Try.func227, Try.ntmps227
  go_wp2_with (first | ((with_reducible refine gate_dst (N := 1) rfl ?_); refine box_event ?hg (N := 1) ?hd (cs := #[.int .i64 a0_0, .int .i64 a0_1, .int .i64 a0_2]) (t := 51) ?hr ?_; (case hd => rfl); (case hg => rfl); (case hr => first | (go_simp; done) | (go_simp; rfl)); intro gb316 hg w5 hbox hb; have BK316 := Aside0.mk (hbox); have GW316 := gs_ hg; have GE316 := gs_ hg; replace HB := hbs_ hb; clear hb hbox hg; have hcz6 := blk_cell BK316.out; have hfz6 := blk_frozen BK316.out) | ((with_reducible refine gate_callee (f := 122) rfl ?_); refine goesC_ (some 5) Try.func122 #[.agg #[.int .i64 a0_0, .int .i64 a0_1]] ?_; (with_reducible refine (impl_RoleOk.calls a0_0 a0_1 true _ A2.out).mono ?_); rintro e w7 ⟨rfl, hb⟩; refine ⟨_, rfl, ?_⟩; replace BK316 := bkb_ BK316 hb; replace HB := hbs_ hb; clear hb; have hcz8 := blk_cell BK316.out; have hfz8 := blk_frozen BK316.out) | (go_at_call 171; (with_reducible refine (impl_isPerson.calls a0_2 t318 _ A4.out).mono ?_); rintro e w' ⟨rfl, ⟨nd, rfl⟩⟩))
  go_ret
  exact ⟨eq_, bl_⟩
 ·replace c3 := Bool.eq_false_iff.mpr c3
  subst c3
  replace H := ite_f_ H
  obtain rfl := Option.some.inj H
  go_enter Try.func227, Try.ntmps227
  go_wp2_with (first | ((with_reducible refine gate_dst (N := 1) rfl ?_); refine box_event ?hg (N := 1) ?hd (cs := #[.int .i64 a0_0, .int .i64 a0_1, .int .i64 a0_2]) (t := 51) ?hr ?_; (case hd => rfl); (case hg => rfl); (case hr => first | (go_simp; done) | (go_simp; rfl)); intro gb316 hg w9 hbox hb; have BK316 := Aside0.mk (hbox); have GW316 := gs_ hg; have GE316 := gs_ hg; replace HB := hbs_ hb; clear hb hbox hg; have hcz10 := blk_cell BK316.out; have hfz10 := blk_frozen BK316.out) | ((with_reducible refine gate_callee (f := 122) rfl ?_); refine goesC_ (some 5) Try.func122 #[.agg #[.int .i64 a0_0, .int .i64 a0_1]] ?_; (with_reducible refine (impl_RoleOk.calls a0_0 a0_1 false _ A2.out).mono ?_); rintro e w11 ⟨rfl, hb⟩; refine ⟨_, rfl, ?_⟩; replace BK316 := bkb_ BK316 hb; replace HB := hbs_ hb; clear hb))
  go_ret
  exact ⟨eq_, bl_⟩
end Go.Proofs.Ytjpjidgfcljpcaa.PD
