import Derived.Test.YteehgihclnlaoaaKDPAx5
import Derived.Test.YteehgihclnlaoaaKDPAx6
-- printed by wip/tools
namespace Go.Proofs.Yteehgihclnlaoaa.PA
open Go.RowKit Go.Proofs.YteehgihclnlaoaaW.PrintWords Go.Proofs.YteehgihclnlaoaaW.PrintLast Go.Proofs.YteehgihclnlaoaaW.PrintMore
attribute [local go_sem] max2_int min2_int max_two min_two max_three min_three max_four min_four
set_option linter.unusedVariables false
set_option linter.unusedSimpArgs false
def spec_l06Any.f (k : Nat) (s0_0 : List Int) (s0_1 : Int) (s0_2 : Int) : Option ((List (S48)) × Int × Int) := (spec_l06Creds.f k s0_0 s0_1 s0_2).bind fun bt249 => ((spec_l01Once.f s0_0 bt249.2.1 bt249.2.2 4).bind fun bt254 => (if bt254.1 = true then ((spec_l05Any.f s0_0 bt254.2.1 bt254.2.2).bind fun bt257 => (if bt249.1.length < 1759218604441 then (some ((bt249.1 ++ [(⟨bt257.1, (⟨bt257.2.1, bt257.2.2.1⟩ : S26), bt257.2.2.2.1, (⟨bt257.2.2.2.2.1, bt257.2.2.2.2.2.1⟩ : S26), (⟨bt257.2.2.2.2.2.2.1, bt257.2.2.2.2.2.2.2.1⟩ : S26), bt257.2.2.2.2.2.2.2.2.1, bt257.2.2.2.2.2.2.2.2.2.1⟩ : S48)]), bt257.2.2.2.2.2.2.2.2.2.2.1, bt257.2.2.2.2.2.2.2.2.2.2.2)) else (none))) else (some (bt249.1, bt254.2.1, bt254.2.2))))
set_option maxHeartbeats 8000000 in
set_option maxRecDepth 100000 in
theorem spec_l06Any.calls (k : Nat) (g : Nat) (s0_0 : List Int) (s0_1 : Int) (s0_2 : Int) (r1 : List (S48)) (r2 : Int) (r3 : Int) (w0 w : World) (hI : IsS61 w0 w g s0_0 s0_1 s0_2) (hB : Below w0.heap.size w0 w) (h : spec_l06Any.f k s0_0 s0_1 s0_2 = some (r1, r2, r3)) :
  Calls Try.prog 45 #[.pointer (some ⟨g, 0, none⟩)] w fun e w' => ∃ v0_ : Value, e = .returned (v0_) ∧ Kd.R k48 48 w' w.heap.size (fun _ => True) v0_ r1 ∧ IsS61 w0 w' g s0_0 r2 r3 ∧ Below w0.heap.size w0 w' ∧ KeepBut w w' g none := by
 have HI0 := Aside0.mk hI
 have HK := Aside0.mk (KeepBut.refl w g none)
 have HL := Aside0.mk hB.size
 clear hI
 have HW0 := Aside0.mk hB.size
 have HB := Aside0.mk hB
 clear hB
 have H : ((spec_l06Creds.f k s0_0 s0_1 s0_2).bind fun bt249 => ((spec_l01Once.f s0_0 bt249.2.1 bt249.2.2 4).bind fun bt254 => (if bt254.1 = true then ((spec_l05Any.f s0_0 bt254.2.1 bt254.2.2).bind fun bt257 => (if bt249.1.length < 1759218604441 then (some ((bt249.1 ++ [(⟨bt257.1, (⟨bt257.2.1, bt257.2.2.1⟩ : S26), bt257.2.2.2.1, (⟨bt257.2.2.2.2.1, bt257.2.2.2.2.2.1⟩ : S26), (⟨bt257.2.2.2.2.2.2.1, bt257.2.2.2.2.2.2.2.1⟩ : S26), bt257.2.2.2.2.2.2.2.2.1, bt257.2.2.2.2.2.2.2.2.2.1⟩ : S48)]), bt257.2.2.2.2.2.2.2.2.2.2.1, bt257.2.2.2.2.2.2.2.2.2.2.2)) else (none))) else (some (bt249.1, bt254.2.1, bt254.2.2))))) = some (r1, r2, r3) := h
 clear h
 obtain ⟨⟨t249, t252, t253⟩, A2, H⟩ := bindE_ H
 replace H : ((spec_l01Once.f s0_0 t252 t253 4).bind fun bt254 => (if bt254.1 = true then ((spec_l05Any.f s0_0 bt254.2.1 bt254.2.2).bind fun bt257 => (if t249.length < 1759218604441 then (some ((t249 ++ [(⟨bt257.1, (⟨bt257.2.1, bt257.2.2.1⟩ : S26), bt257.2.2.2.1, (⟨bt257.2.2.2.2.1, bt257.2.2.2.2.2.1⟩ : S26), (⟨bt257.2.2.2.2.2.2.1, bt257.2.2.2.2.2.2.2.1⟩ : S26), bt257.2.2.2.2.2.2.2.2.1, bt257.2.2.2.2.2.2.2.2.2.1⟩ : S48)]), bt257.2.2.2.2.2.2.2.2.2.2.1, bt257.2.2.2.2.2.2.2.2.2.2.2)) else (none))) else (some (t249, bt254.2.1, bt254.2.2)))) = some (r1, r2, r3) := H
 obtain ⟨⟨t254, t255, t256⟩, A3, H⟩ := bindE_ H
 replace H : (if t254 = true then ((spec_l05Any.f s0_0 t255 t256).bind fun bt257 => (if t249.length < 1759218604441 then (some ((t249 ++ [(⟨bt257.1, (⟨bt257.2.1, bt257.2.2.1⟩ : S26), bt257.2.2.2.1, (⟨bt257.2.2.2.2.1, bt257.2.2.2.2.2.1⟩ : S26), (⟨bt257.2.2.2.2.2.2.1, bt257.2.2.2.2.2.2.2.1⟩ : S26), bt257.2.2.2.2.2.2.2.2.1, bt257.2.2.2.2.2.2.2.2.2.1⟩ : S48)]), bt257.2.2.2.2.2.2.2.2.2.2.1, bt257.2.2.2.2.2.2.2.2.2.2.2)) else (none))) else (some (t249, t255, t256))) = some (r1, r2, r3) := H
 by_cases c4 : t254 = true
 ·subst c4
  replace H := ite_t_ H
  obtain ⟨⟨t257, t258, t259, t260, t261, t262, t263, t264, t265, t266, t267, t268⟩, A5, H⟩ := bindE_ H
  replace H : (if t249.length < 1759218604441 then (some ((t249 ++ [(⟨t257, (⟨t258, t259⟩ : S26), t260, (⟨t261, t262⟩ : S26), (⟨t263, t264⟩ : S26), t265, t266⟩ : S48)]), t267, t268)) else (none)) = some (r1, r2, r3) := H
  obtain ⟨c6, H⟩ := ifn_ H
  have LMc6 := Aside0.mk c6
  clear c6
  obtain ⟨y269, hy269⟩ : ∃ y_ : List (S48), y_ = (t249 ++ [(⟨t257, (⟨t258, t259⟩ : S26), t260, (⟨t261, t262⟩ : S26), (⟨t263, t264⟩ : S26), t265, t266⟩ : S48)]) := ⟨_, rfl⟩
  replace H : (some (y269, t267, t268)) = some (r1, r2, r3) := by first | (rw [hy269]; with_reducible exact H) | (have H2_ := (Option.bind_some _ _).symm.trans H; rw [hy269]; with_reducible exact H2_) | (have H2_ := (Option.bind_some _ _).symm.trans H; with_reducible exact H2_) | with_reducible exact H | (rw [hy269]; exact H) | exact H
  have Ny269 := Aside0.mk hy269
  clear hy269
  simp only [Option.some.injEq, Prod.mk.injEq] at H
  obtain ⟨rfl, rfl, rfl⟩ := H
  go_enter Try.func45, Try.ntmps45
  go_wp2_with (first | ((with_reducible refine gate_callee (f := 57) rfl ?_); refine goesC_ (some 5) Try.func57 #[.pointer (some ⟨g, 0, none⟩)] ?_; (with_reducible refine (spec_l06Creds.calls k g s0_0 s0_1 s0_2 t249 t252 t253 w0 _ ?side1 ?side2 A2.out).mono ?_); (case side1 => exact IsS61.nw_); (case side2 => exact IsS61.bw_); rintro e w7 ⟨v250, rfl, ho0, hi, hb, hk⟩; refine ⟨_, rfl, ?_⟩; have HO251 := Aside0.mk (Kd.R_lower ho0 (keep_size (w := w) (g := g) (row := none) (by exact kp_))); replace HK := Aside0.mk (KeepBut.trans (by exact kp_) hk (.inl rfl)); replace HB := Aside0.mk (hb); replace HI0 := Aside0.mk (hi); (try clear hb); (try clear hb2); (try clear hk); (try clear hi); (try clear ho0)) | ((with_reducible refine gate_callee (f := 58) rfl ?_); refine goesC_ (some 7) Try.func58 #[.pointer (some ⟨g, 0, none⟩), .int .i64 4] ?_; (with_reducible refine (spec_l01Once.calls g s0_0 t252 t253 4 true t255 t256 w0 _ ?side1 ?side2 A3.out).mono ?_); (case side1 => exact IsS61.nw_); (case side2 => exact IsS61.bw_); rintro e w8 ⟨rfl, hi, hb, hk⟩; refine ⟨_, rfl, ?_⟩; replace HO251 := Aside0.mk (Kd.R_mono (Kd.R_keep (IsS61.apart (show IsS61 w0 _ g s0_0 t252 t253 from by exact IsS61.nw_) (by (with_reducible repeat (first | apply Kd.R_alloc | apply Kd.R_drewN | apply Kd.R_drew)); exact HO251.out) (by decide)) hk (fun _ h => h.2)) (fun _ h => h.1)); replace HK := Aside0.mk (KeepBut.trans (by exact kp_) hk (.inl rfl)); replace HB := Aside0.mk (hb); replace HI0 := Aside0.mk (hi); (try clear hb); (try clear hb2); (try clear hk); (try clear hi)) | ((with_reducible refine gate_callee (f := 59) rfl ?_); refine goesC_ (some 10) Try.func59 #[.pointer (some ⟨g, 0, none⟩)] ?_; (with_reducible refine (spec_l05Any.calls g s0_0 t255 t256 t257 t258 t259 t260 t261 t262 t263 t264 t265 t266 t267 t268 w0 _ ?side1 ?side2 A5.out).mono ?_); (case side1 => exact IsS61.nw_); (case side2 => exact IsS61.bw_); rintro e w9 ⟨rfl, hi, hb, hk⟩; refine ⟨_, rfl, ?_⟩; replace HO251 := Aside0.mk (Kd.R_mono (Kd.R_keep (IsS61.apart (show IsS61 w0 _ g s0_0 t255 t256 from by exact IsS61.nw_) (by (with_reducible repeat (first | apply Kd.R_alloc | apply Kd.R_drewN | apply Kd.R_drew)); exact HO251.out) (by decide)) hk (fun _ h => h.2)) (fun _ h => h.1)); replace HK := Aside0.mk (KeepBut.trans (by exact kp_) hk (.inl rfl)); replace HB := Aside0.mk (hb); replace HI0 := Aside0.mk (hi); (try clear hb); (try clear hb2); (try clear hk); (try clear hi)) | ((with_reducible refine gate_builtin (b := .append) (xs := #[.tmp 8, .tmp 11]) rfl ?_); at_builtin; refine Kd.R_append k48 w.heap.size rfl (.tmp 8) (.tmp 11) 24 48 (.agg #[(.int .i64 0), (.int .i64 0), (.int .i64 0), (.int .i64 0), (.int .i64 0), (.int .i64 0), (.int .i64 0), (.int .i64 0), (.int .i64 0), (.int .i64 0)]) 80 rfl Try.underlying24 info48 rfl (by decide) (by omega) v250 t249 (⟨t257, (⟨t258, t259⟩ : S26), t260, (⟨t261, t262⟩ : S26), (⟨t263, t264⟩ : S26), t265, t266⟩ : S48) [.int .i64 t257, .int .i64 t258, .int .i64 t259, .int .i64 t260, .int .i64 t261, .int .i64 t262, .int .i64 t263, .int .i64 t264, .int .i64 t265, .int .i64 t266] (fun _ => True) (fun _ => False) rfl rfl ?aP (fun _ hk => hk.elim) ?aF ?aO (Below.refl _ _) ?aS ?aL ?_; (case aP => exact k48_mkM _ _ _ (⟨t257, (⟨t258, t259⟩ : S26), t260, (⟨t261, t262⟩ : S26), (⟨t263, t264⟩ : S26), t265, t266⟩ : S48)); (case aF => exact (fun _ _ => trivial)); (case aO => exact (by (with_reducible repeat (first | apply Kd.R_alloc | apply Kd.R_drewN | apply Kd.R_drew)); exact HO251.out)); (case aS => exact (keep_size (w := w) (g := g) (row := none) (by exact kp_))); (case aL => have := LMc6.out; omega); intro v270 w10 ho hb hg hat; rw [← Ny269.out] at ho; replace HB := Aside0.mk (below_weaken (by exact IsS61.bw_) HL.out hb); replace HI0 := Aside0.mk (IsS61.grown (show IsS61 w0 _ g s0_0 t267 t268 from by exact IsS61.nw_) hg (IsS61.own_ne HI0.out HO251.out (by decide))); replace HK := Aside0.mk (KeepBut.trans (by exact kp_) (KeepBut.of_grown hg g) (Kd.R_base2 HO251.out)); have HO271 := Aside0.mk (ho); clear HO251; clear ho hb hg hat))
  go_ret
  exact ⟨_, eq_, by (with_reducible repeat (first | apply Kd.R_alloc | apply Kd.R_drewN | apply Kd.R_drew)); exact HO271.out, by exact IsS61.nw_, by exact IsS61.bw_, by exact kp_⟩
 ·replace c4 := Bool.eq_false_iff.mpr c4
  subst c4
  replace H := ite_f_ H
  simp only [Option.some.injEq, Prod.mk.injEq] at H
  obtain ⟨rfl, rfl, rfl⟩ := H
  go_enter Try.func45, Try.ntmps45
  go_wp2_with (first | ((with_reducible refine gate_callee (f := 57) rfl ?_); refine goesC_ (some 5) Try.func57 #[.pointer (some ⟨g, 0, none⟩)] ?_; (with_reducible refine (spec_l06Creds.calls k g s0_0 s0_1 s0_2 t249 t252 t253 w0 _ ?side1 ?side2 A2.out).mono ?_); (case side1 => exact IsS61.nw_); (case side2 => exact IsS61.bw_); rintro e w11 ⟨v250, rfl, ho0, hi, hb, hk⟩; refine ⟨_, rfl, ?_⟩; have HO251 := Aside0.mk (Kd.R_lower ho0 (keep_size (w := w) (g := g) (row := none) (by exact kp_))); replace HK := Aside0.mk (KeepBut.trans (by exact kp_) hk (.inl rfl)); replace HB := Aside0.mk (hb); replace HI0 := Aside0.mk (hi); (try clear hb); (try clear hb2); (try clear hk); (try clear hi); (try clear ho0)) | ((with_reducible refine gate_callee (f := 58) rfl ?_); refine goesC_ (some 7) Try.func58 #[.pointer (some ⟨g, 0, none⟩), .int .i64 4] ?_; (with_reducible refine (spec_l01Once.calls g s0_0 t252 t253 4 false t255 t256 w0 _ ?side1 ?side2 A3.out).mono ?_); (case side1 => exact IsS61.nw_); (case side2 => exact IsS61.bw_); rintro e w12 ⟨rfl, hi, hb, hk⟩; refine ⟨_, rfl, ?_⟩; replace HO251 := Aside0.mk (Kd.R_mono (Kd.R_keep (IsS61.apart (show IsS61 w0 _ g s0_0 t252 t253 from by exact IsS61.nw_) (by (with_reducible repeat (first | apply Kd.R_alloc | apply Kd.R_drewN | apply Kd.R_drew)); exact HO251.out) (by decide)) hk (fun _ h => h.2)) (fun _ h => h.1)); replace HK := Aside0.mk (KeepBut.trans (by exact kp_) hk (.inl rfl)); replace HB := Aside0.mk (hb); replace HI0 := Aside0.mk (hi); (try clear hb); (try clear hb2); (try clear hk); (try clear hi)))
  go_ret
  exact ⟨_, eq_, by (with_reducible repeat (first | apply Kd.R_alloc | apply Kd.R_drewN | apply Kd.R_drew)); exact HO251.out, by exact IsS61.nw_, by exact IsS61.bw_, by exact kp_⟩
def spec_DrawIsMember.f (k : Nat) (l0 : List Int) : Option ((List (S48)) × Int × Int × Int) := (spec_l01New.f k l0).bind fun bt273 => ((spec_l01Below.f bt273.1 bt273.2.1 bt273.2.2 8).bind fun bt277 => ((spec_l05AnyRole.f bt273.1 bt277.2.1 bt277.2.2).bind fun bt280 => ((spec_l06Any.f k bt273.1 bt280.2.2.1 bt280.2.2.2).bind fun bt285 => (some (bt285.1, bt280.1, bt280.2.1, wrap64 (bt277.1 - 1))))))
set_option maxHeartbeats 8000000 in
set_option maxRecDepth 100000 in
theorem spec_DrawIsMember.calls (k : Nat) (A0 : Option Addr) (c0 : Nat) (l0 : List Int) (r1 : List (S48)) (r2 : Int) (r3 : Int) (r4 : Int) (w : World) (hr0 : Kd.C (Kd.int .u8) w A0 l0.length l0) (hc0 : l0.length ≤ c0) (h : spec_DrawIsMember.f k l0 = some (r1, r2, r3, r4)) :
  Calls Try.prog 22 #[.slice A0 l0.length c0] w fun e w' => ∃ v0_ : Value, e = .returned (.tuple #[v0_, .agg #[.int .i64 r2, .int .i64 r3], .int .i64 r4]) ∧ Kd.R k48 48 w' w.heap.size (fun _ => True) v0_ r1 ∧ Below w.heap.size w w' := by
 have hu26 := Try.underlying26
 have HR0 := Aside0.mk hr0
 have HC0 := Aside0.mk hc0
 clear hr0 hc0
 have HB := Aside0.mk (Below.refl w.heap.size w)
 have H : ((spec_l01New.f k l0).bind fun bt273 => ((spec_l01Below.f bt273.1 bt273.2.1 bt273.2.2 8).bind fun bt277 => ((spec_l05AnyRole.f bt273.1 bt277.2.1 bt277.2.2).bind fun bt280 => ((spec_l06Any.f k bt273.1 bt280.2.2.1 bt280.2.2.2).bind fun bt285 => (some (bt285.1, bt280.1, bt280.2.1, wrap64 (bt277.1 - 1))))))) = some (r1, r2, r3, r4) := h
 clear h
 obtain ⟨⟨t273, t274, t275⟩, A2, H⟩ := bindE_ H
 replace H : ((spec_l01Below.f t273 t274 t275 8).bind fun bt277 => ((spec_l05AnyRole.f t273 bt277.2.1 bt277.2.2).bind fun bt280 => ((spec_l06Any.f k t273 bt280.2.2.1 bt280.2.2.2).bind fun bt285 => (some (bt285.1, bt280.1, bt280.2.1, wrap64 (bt277.1 - 1)))))) = some (r1, r2, r3, r4) := H
 obtain ⟨⟨t277, t278, t279⟩, A3, H⟩ := bindE_ H
 replace H : ((spec_l05AnyRole.f t273 t278 t279).bind fun bt280 => ((spec_l06Any.f k t273 bt280.2.2.1 bt280.2.2.2).bind fun bt285 => (some (bt285.1, bt280.1, bt280.2.1, wrap64 (t277 - 1))))) = some (r1, r2, r3, r4) := H
 obtain ⟨⟨t280, t281, t282, t283⟩, A4, H⟩ := bindE_ H
 replace H : ((spec_l06Any.f k t273 t282 t283).bind fun bt285 => (some (bt285.1, t280, t281, wrap64 (t277 - 1)))) = some (r1, r2, r3, r4) := H
 obtain ⟨⟨t285, t288, t289⟩, A5, H⟩ := bindE_ H
 replace H : (some (t285, t280, t281, wrap64 (t277 - 1))) = some (r1, r2, r3, r4) := H
 simp only [Option.some.injEq, Prod.mk.injEq] at H
 obtain ⟨rfl, rfl, rfl, rfl⟩ := H
 go_enter Try.func22, Try.ntmps22
 try go_wp2_with (first | ((with_reducible refine gate_dst (N := 3) rfl ?_); refine box_event ?hg (N := 3) ?hd (cs := #[.int .i64 0, .int .i64 0]) (t := 26) ?hr ?_; (case hd => rfl); (case hg => rfl); (case hr => first | (go_simp; done) | (go_simp; rfl)); intro gb272 hg w6 hbox hb; have BK272 := Aside0.mk (hbox); have GW272 := gs_ hg; have GE272 := gs_ hg; replace HB := hbs_ hb; clear hb hbox hg) | ((with_reducible refine gate_callee (f := 20) rfl ?_); refine goesC_ (some 9) Try.func20 #[.slice A0 l0.length c0] ?_; (with_reducible refine (spec_l01New.calls k _ _ l0 t273 t274 t275 w _ ?side1 ?side2 ?side3 A2.out).mono ?_); (case side1 => repeat (first | (with_reducible first | exact HB.out | apply below_alloc | apply pw_below_drewN | apply below_drew1 | refine below_set ?_ GE272.out) | exact HB.out)); (case side2 => exact HR0.out); (case side3 => exact HC0.out); rintro e w7 ⟨g276, rfl, hi, hb, hb2⟩; refine ⟨_, rfl, ?_⟩; replace HB := Aside0.mk (hb); have HI276 := Aside0.mk (hi); have NB276_272 := Aside0.mk (IsS61.ne_blk hi (blk_below (g := gb272) (o := .cells #[.int .i64 0, .int .i64 0] 26 (0, 0)) (bk_ BK272) hb2) (by decide)); have NB272_276 := Aside0.mk (Ne.symm (IsS61.ne_blk hi (blk_below (g := gb272) (o := .cells #[.int .i64 0, .int .i64 0] 26 (0, 0)) (bk_ BK272) hb2) (by decide))); replace BK272 := Aside0.mk (blk_below (g := gb272) (o := .cells #[.int .i64 0, .int .i64 0] 26 (0, 0)) (bk_ BK272) hb2); (try clear hb); (try clear hb2); (try clear hk); (try clear hi)) | ((with_reducible refine gate_callee (f := 43) rfl ?_); refine goesC_ (some 11) Try.func43 #[.pointer (some ⟨g276, 0, none⟩), .int .i64 8] ?_; (with_reducible refine (spec_l01Below.calls g276 t273 t274 t275 8 t277 t278 t279 w _ ?side1 ?side2 A3.out).mono ?_); (case side1 => exact IsS61.nw_); (case side2 => repeat (first | (with_reducible first | exact HB.out | apply below_alloc | apply pw_below_drewN | apply below_drew1 | refine below_set ?_ (IsS61.ge HI276.out) | refine below_set ?_ GE272.out) | exact HB.out)); rintro e w8 ⟨rfl, hi, hb, hk⟩; refine ⟨_, rfl, ?_⟩; replace BK272 := Aside0.mk (KeepBut.blk hk (g' := gb272) (o := .cells #[.int .i64 0, .int .i64 0] 26 (0, 0)) (bk_ BK272) NB272_276.out (by simp)); replace HB := Aside0.mk (hb); replace HI276 := Aside0.mk (hi); (try clear hb); (try clear hb2); (try clear hk); (try clear hi)) | ((with_reducible refine gate_callee (f := 44) rfl ?_); refine goesC_ (some 14) Try.func44 #[.pointer (some ⟨g276, 0, none⟩)] ?_; (with_reducible refine (spec_l05AnyRole.calls g276 t273 t278 t279 t280 t281 t282 t283 w _ ?side1 ?side2 A4.out).mono ?_); (case side1 => exact IsS61.nw_); (case side2 => repeat (first | (with_reducible first | exact HB.out | apply below_alloc | apply pw_below_drewN | apply below_drew1 | refine below_set ?_ (IsS61.ge HI276.out) | refine below_set ?_ GE272.out) | exact HB.out)); rintro e w9 ⟨rfl, hi, hb, hk⟩; refine ⟨_, rfl, ?_⟩; replace BK272 := Aside0.mk (KeepBut.blk hk (g' := gb272) (o := .cells #[.int .i64 0, .int .i64 0] 26 (0, 0)) (bk_ BK272) NB272_276.out (by simp)); replace HB := Aside0.mk (hb); replace HI276 := Aside0.mk (hi); (try clear hb); (try clear hb2); (try clear hk); (try clear hi)) | ((with_reducible refine gate_dst (N := 7) rfl ?_); refine box_event ?hg (N := 7) ?hd (cs := #[.int .i64 0, .int .i64 0]) (t := 26) ?hr ?_; (case hd => rfl); (case hg => rfl); (case hr => first | (go_simp; done) | (go_simp; rfl)); intro gb284 hg w10 hbox hb; have BK284 := Aside0.mk (hbox); have GW284 := Aside0.mk ((by rw [hg]; exact (below_size (by repeat (first | (with_reducible first | exact HB.out | apply below_alloc | apply pw_below_drewN | apply below_drew1 | refine below_set ?_ (IsS61.ge HI276.out) | refine below_set ?_ GE272.out) | exact HB.out))) : w.heap.size ≤ gb284)); have GE284 := Aside0.mk ((by rw [hg]; exact (below_size (by repeat (first | (with_reducible first | exact HB.out | apply below_alloc | apply pw_below_drewN | apply below_drew1 | refine below_set ?_ (IsS61.ge HI276.out) | refine below_set ?_ GE272.out) | exact HB.out))) : w.heap.size ≤ gb284)); replace HB := Aside0.mk (below_step (by repeat (first | (with_reducible first | exact HB.out | apply below_alloc | apply pw_below_drewN | apply below_drew1 | refine below_set ?_ (IsS61.ge HI276.out) | refine below_set ?_ GE272.out) | exact HB.out)) hb); have NB272_284 := nl_ hg BK272; have NB284_272 := nr_ hg BK272; replace BK272 := bkb_ BK272 hb; have NB276_284 := Aside0.mk ((by rw [hg]; exact Nat.ne_of_lt (IsS61.lt (show IsS61 w _ g276 t273 t282 t283 from by exact IsS61.nw_)) : g276 ≠ gb284)); have NB284_276 := Aside0.mk ((by rw [hg]; exact Nat.ne_of_gt (IsS61.lt (show IsS61 w _ g276 t273 t282 t283 from by exact IsS61.nw_)) : gb284 ≠ g276)); replace HI276 := Aside0.mk (IsS61.below (by exact IsS61.nw_) hb); clear hb hbox hg; have hnb11 := NB284_272.out; have hnc11 := NB272_284.out; have hnb12 := NB284_276.out; have hnc12 := NB276_284.out; have hcz13 := blk_cell BK284.out; have hfz13 := blk_frozen BK284.out))
 have n0_ : Aside0 (((w10.setCell ⟨gb284, 0, none⟩ (.int .i64 t280)).setCell ⟨gb284, 1, none⟩ (.int .i64 t281)).heap[gb272]? = some (.cells #[.int .i64 0, .int .i64 0] 26 (0, 0))) := ⟨bk_ BK272⟩
 have n1_ : Aside0 (((w10.setCell ⟨gb284, 0, none⟩ (.int .i64 t280)).setCell ⟨gb284, 1, none⟩ (.int .i64 t281)).heap[gb284]? = some (.cells #[.int .i64 t280, .int .i64 t281] 26 (0, 0))) := ⟨bk_ BK284⟩
 have n2_ : Aside0 (IsS61 w ((w10.setCell ⟨gb284, 0, none⟩ (.int .i64 t280)).setCell ⟨gb284, 1, none⟩ (.int .i64 t281)) g276 t273 t282 t283) := ⟨by exact IsS61.nw_⟩
 have n3_ : Aside0 (Below w.heap.size w ((w10.setCell ⟨gb284, 0, none⟩ (.int .i64 t280)).setCell ⟨gb284, 1, none⟩ (.int .i64 t281))) := ⟨by repeat (first | (with_reducible first | exact HB.out | apply below_alloc | apply pw_below_drewN | apply below_drew1 | refine below_set ?_ (IsS61.ge HI276.out) | refine below_set ?_ GE272.out | refine below_set ?_ GE284.out) | exact HB.out)⟩
 (try clear BK272)
 (try clear BK284)
 (try clear HI276)
 (try clear HB)
 generalize ((w10.setCell ⟨gb284, 0, none⟩ (.int .i64 t280)).setCell ⟨gb284, 1, none⟩ (.int .i64 t281)) = w14 at n0_ n1_ n2_ n3_ ⊢
 have BK272 := n0_
 have BK284 := n1_
 have HI276 := n2_
 have HB := n3_
 clear n0_ n1_ n2_ n3_
 replace BK272 := Aside0.mk (blk_drew BK272.out)
 replace BK284 := Aside0.mk (blk_drew BK284.out)
 replace HI276 := Aside0.mk (IsS61.drew HI276.out)
 replace HB := Aside0.mk (below_drew1 HB.out)
 refine start_ (n := 7) (S := fun w' => w'.cell? ⟨gb284, 0, none⟩ = some (.int .i64 t280) ∧ w'.cell? ⟨gb284, 1, none⟩ = some (.int .i64 t281)) (ds := []) #[false, false, false, false, false, false, false] (by kernel_rfl) rfl rfl ⟨(blk_cell BK284.out 0).trans rfl, (blk_cell BK284.out 1).trans rfl⟩ (fun hHeld => ?_)
 generalize w14.drew = w15 at BK272 BK284 HI276 HB hHeld ⊢
 refine pure_ (i := 0) (N := some 15) (v := ?_) (a' := ?_) #[true, false, false, false, false, false, false] rfl rfl (by kernel_rfl) (fun _ _ _ h => h) (Or.inl ⟨by rfl, ?_⟩) ?_ ?_
 rotate_left
 ·intro w'
  go_simp
  with_reducible rfl
 rotate_left
 ·simp only [Act.put, List.setIfInBounds_toArray, List.set_cons_zero, List.set_cons_succ, i64_w, i32_w]
  rfl
 refine pure_ (i := 3) (N := some 18) (v := ?_) (a' := ?_) #[true, false, false, true, false, false, false] rfl rfl (by kernel_rfl) (fun _ _ _ h => h) (Or.inl ⟨by rfl, ?_⟩) ?_ ?_
 rotate_left
 ·intro w'
  go_simp
  with_reducible rfl
 rotate_left
 ·simp only [Act.put, List.setIfInBounds_toArray, List.set_cons_zero, List.set_cons_succ, i64_w, i32_w]
  rfl
 refine take_ (i := 2) (N := some 17) (v := ?_) (a' := ?_) #[true, false, true, true, false, false, false] rfl rfl (by kernel_rfl) (fun _ _ _ h => h) (Or.inl ⟨by rfl, ?_⟩) hHeld ?_ ?_
 rotate_left
 ·rintro w' ⟨s0, s1⟩
  go_simp
  with_reducible rfl
 rotate_left
 ·simp only [Act.put, List.setIfInBounds_toArray, List.set_cons_zero, List.set_cons_succ, i64_w, i32_w]
  rfl
 refine one_ (i := 1) (N := some 16) #[true, true, true, true, false, false, false] rfl rfl (by kernel_rfl) (by decide) (fun K hK => ?_)
 refine goes_ Try.func45 (by kernel_rfl) rfl #[.pointer (some ⟨g276, 0, none⟩)] (by rfl) rfl rfl (by (try simp only [List.map_toArray, List.map_cons, List.map_nil]); first | done | rfl | (simp only [List.length_drop, List.length_take]; rfl)) ?_
 with_reducible refine (spec_l06Any.calls k g276 t273 t282 t283 t285 t288 t289 w _ ?side1 ?side2 A5.out).mono ?_
 (case side1 => exact IsS61.nw_)
 (case side2 => repeat (first | (with_reducible first | exact HB.out | apply below_alloc | apply pw_below_drewN | apply below_drew1 | refine below_set ?_ (IsS61.ge HI276.out) | refine below_set ?_ GE272.out | refine below_set ?_ GE284.out) | exact HB.out))
 rintro e w16 ⟨v286, rfl, ho0, hi, hb, hk⟩
 refine ⟨_, rfl, ?_⟩
 replace BK272 := Aside0.mk (KeepBut.blk hk (g' := gb272) (o := .cells #[.int .i64 0, .int .i64 0] 26 (0, 0)) (bk_ BK272) NB272_276.out (by simp))
 replace BK284 := Aside0.mk (KeepBut.blk hk (g' := gb284) (o := .cells #[.int .i64 t280, .int .i64 t281] 26 (0, 0)) (bk_ BK284) NB284_276.out (by simp))
 have HO287 := Aside0.mk (Kd.R_lower ho0 (below_size (by repeat (first | (with_reducible first | exact HB.out | apply below_alloc | apply pw_below_drewN | apply below_drew1 | refine below_set ?_ (IsS61.ge HI276.out) | refine below_set ?_ GE272.out | refine below_set ?_ GE284.out) | exact HB.out))))
 replace HB := Aside0.mk (hb)
 replace HI276 := Aside0.mk (hi)
 (try clear hb)
 (try clear hb2)
 (try clear hk)
 (try clear hi)
 (try clear ho0)
 refine hK.out _ _ ⟨(blk_cell BK284.out 0).trans rfl, (blk_cell BK284.out 1).trans rfl⟩ (fun hHeld => ?_)
 clear hK K
 refine norm_ (a' := ?_) ?_ ?_
 rotate_left
 ·show Act.put _ (some 16) _ = _
  simp only [Act.put, List.setIfInBounds_toArray, List.set_cons_zero, List.set_cons_succ, i64_w, i32_w]
  rfl
 refine pure_ (i := 4) (N := some 2) (v := ?_) (a' := ?_) #[true, true, true, true, true, false, false] rfl rfl (by kernel_rfl) (fun _ _ _ h => h) (Or.inl ⟨by rfl, ?_⟩) ?_ ?_
 rotate_left
 ·intro w'
  go_simp
  with_reducible rfl
 rotate_left
 ·simp only [Act.put, List.setIfInBounds_toArray, List.set_cons_zero, List.set_cons_succ, i64_w, i32_w]
  rfl
 refine one_ (i := 5) (N := none) #[true, true, true, true, true, true, false] rfl rfl (by kernel_rfl) (by decide) (fun K hK => ?_)
 have hs17 : w16.cell? ⟨gb272, 0, none⟩ = some (.int .i64 0) := (blk_cell BK272.out 0).trans rfl
 have hfs17 := blk_frozen BK272.out 0
 have hns17_1 := NB284_272.out
 have hms17_1 := NB272_284.out
 have hs18 : w16.cell? ⟨gb272, 1, none⟩ = some (.int .i64 0) := (blk_cell BK272.out 1).trans rfl
 have hfs18 := blk_frozen BK272.out 1
 have hns18_1 := NB284_272.out
 have hms18_1 := NB272_284.out
 refine skip_ (w1 := ?_) (by rfl) rfl ?_ ?_
 rotate_left
 ·go_simp
  rfl
 refine hK.out _ _ ⟨((cell_far (p := ⟨gb272, _, none⟩) NB284_272.out _).trans (((cell_far (p := ⟨gb272, _, none⟩) NB284_272.out _).trans (hHeld.1)))), ((cell_far (p := ⟨gb272, _, none⟩) NB284_272.out _).trans (((cell_far (p := ⟨gb272, _, none⟩) NB284_272.out _).trans (hHeld.2))))⟩ (fun hHeld => ?_)
 clear hK K
 refine pure_ (i := 6) (N := some 4) (v := ?_) (a' := ?_) #[true, true, true, true, true, true, true] rfl rfl (by kernel_rfl) (fun _ _ _ h => h) (Or.inl ⟨by rfl, ?_⟩) ?_ ?_
 rotate_left
 ·intro w'
  go_simp
  with_reducible rfl
 rotate_left
 ·simp only [Act.put, List.setIfInBounds_toArray, List.set_cons_zero, List.set_cons_succ, i64_w, i32_w]
  rfl
 refine done_ (by kernel_rfl) ?_
 try go_wp2
 refine bodyPost_ret (results_list (rs := [.tmp 2, .cell 3 26, .tmp 4]) rfl (by simp) (.tmp (.cell gb272 26 #[.int .i64 t280, .int .i64 t281] (0, 0) _ rfl (bk_ BK272) Try.underlying26 rfl (by kernel_rfl) (.tmp .nil)))) rfl ?_
 exact ⟨_, eq_, by (with_reducible repeat (first | apply Kd.R_alloc | apply Kd.R_drewN | apply Kd.R_drew)); exact Kd.R_mono (Kd.R_far (p := ⟨gb272, 1, none⟩) (Kd.R_far (p := ⟨gb272, 0, none⟩) (Kd.R_types HO287.out BK272.out (by decide)) (fun _ hk => hk.2) (.int .i64 t280)) (fun _ hk => hk.2) (.int .i64 t281)) (fun _ hk => trivial), by repeat (first | (with_reducible first | exact HB.out | apply below_alloc | apply pw_below_drewN | apply below_drew1 | refine below_set ?_ (IsS61.ge HI276.out) | refine below_set ?_ GE272.out | refine below_set ?_ GE284.out) | exact HB.out)⟩
def spec_DrawHoldsAt.f (k : Nat) (l0 : List Int) : Option ((List (S48)) × Int × Int × Int × Int) := (spec_l01New.f k l0).bind fun bt291 => ((spec_l20Day.f bt291.1 bt291.2.1 bt291.2.2).bind fun bt295 => ((spec_DrawIsMember.f k l0).bind fun bt298 => (some (bt298.1, bt298.2.1, bt298.2.2.1, bt298.2.2.2, bt295.1))))
def spec_DrawHoldsAt.T4 : Bool × List (List Nat × List Nat) := (true, [([], []), ([], []), ([], []), ([], []), ([0, 0], [0]), ([1, 4, 0, 1, 4], [1]), ([2, 5, 0, 1, 2, 4, 5], [2]), ([3, 6, 0, 1, 2, 3, 4, 5, 6], [3])])
def spec_DrawHoldsAt.B4 : List Nat := [0, 0, 0, 0, 1, 19, 55, 127]
theorem spec_DrawHoldsAt.tab4 : rtab .any (opsOf Try.f5 4) = spec_DrawHoldsAt.T4 := by kernel_rfl
theorem spec_DrawHoldsAt.bits4 : waitsOk spec_DrawHoldsAt.T4.2 spec_DrawHoldsAt.B4 = true := by kernel_rfl
set_option maxHeartbeats 8000000 in
set_option maxRecDepth 100000 in
theorem spec_DrawHoldsAt.calls (k : Nat) (A0 : Option Addr) (c0 : Nat) (l0 : List Int) (r1 : List (S48)) (r2 : Int) (r3 : Int) (r4 : Int) (r5 : Int) (w : World) (hr0 : Kd.C (Kd.int .u8) w A0 l0.length l0) (hc0 : l0.length ≤ c0) (h : spec_DrawHoldsAt.f k l0 = some (r1, r2, r3, r4, r5)) :
  Calls Try.prog 5 #[.slice A0 l0.length c0] w fun e w' => ∃ v0_ : Value, e = .returned (.tuple #[v0_, .agg #[.int .i64 r2, .int .i64 r3], .int .i64 r4, .int .i64 r5]) ∧ Kd.R k48 48 w' w.heap.size (fun _ => True) v0_ r1 ∧ Below w.heap.size w w' := by
 have hu26 := Try.underlying26
 have HR0 := Aside0.mk hr0
 have HC0 := Aside0.mk hc0
 clear hr0 hc0
 have HB := Aside0.mk (Below.refl w.heap.size w)
 have H : ((spec_l01New.f k l0).bind fun bt291 => ((spec_l20Day.f bt291.1 bt291.2.1 bt291.2.2).bind fun bt295 => ((spec_DrawIsMember.f k l0).bind fun bt298 => (some (bt298.1, bt298.2.1, bt298.2.2.1, bt298.2.2.2, bt295.1))))) = some (r1, r2, r3, r4, r5) := h
 clear h
 obtain ⟨⟨t291, t292, t293⟩, A2, H⟩ := bindE_ H
 replace H : ((spec_l20Day.f t291 t292 t293).bind fun bt295 => ((spec_DrawIsMember.f k l0).bind fun bt298 => (some (bt298.1, bt298.2.1, bt298.2.2.1, bt298.2.2.2, bt295.1)))) = some (r1, r2, r3, r4, r5) := H
 obtain ⟨⟨t295, t296, t297⟩, A3, H⟩ := bindE_ H
 replace H : ((spec_DrawIsMember.f k l0).bind fun bt298 => (some (bt298.1, bt298.2.1, bt298.2.2.1, bt298.2.2.2, t295))) = some (r1, r2, r3, r4, r5) := H
 obtain ⟨⟨t298, t301, t302, t303⟩, A4, H⟩ := bindE_ H
 replace H : (some (t298, t301, t302, t303, t295)) = some (r1, r2, r3, r4, r5) := H
 simp only [Option.some.injEq, Prod.mk.injEq] at H
 obtain ⟨rfl, rfl, rfl, rfl, rfl⟩ := H
 go_enter Try.func5, Try.ntmps5
 try go_wp2_with (first | ((with_reducible refine gate_dst (N := 3) rfl ?_); refine box_event ?hg (N := 3) ?hd (cs := #[.int .i64 0, .int .i64 0]) (t := 26) ?hr ?_; (case hd => rfl); (case hg => rfl); (case hr => first | (go_simp; done) | (go_simp; rfl)); intro gb290 hg w5 hbox hb; have BK290 := Aside0.mk (hbox); have GW290 := gs_ hg; have GE290 := gs_ hg; replace HB := hbs_ hb; clear hb hbox hg) | ((with_reducible refine gate_callee (f := 20) rfl ?_); refine goesC_ (some 12) Try.func20 #[.slice A0 l0.length c0] ?_; (with_reducible refine (spec_l01New.calls k _ _ l0 t291 t292 t293 w _ ?side1 ?side2 ?side3 A2.out).mono ?_); (case side1 => repeat (first | (with_reducible first | exact HB.out | apply below_alloc | apply pw_below_drewN | apply below_drew1 | refine below_set ?_ GE290.out) | exact HB.out)); (case side2 => exact HR0.out); (case side3 => exact HC0.out); rintro e w6 ⟨g294, rfl, hi, hb, hb2⟩; refine ⟨_, rfl, ?_⟩; replace HB := Aside0.mk (hb); have HI294 := Aside0.mk (hi); have NB294_290 := Aside0.mk (IsS61.ne_blk hi (blk_below (g := gb290) (o := .cells #[.int .i64 0, .int .i64 0] 26 (0, 0)) (bk_ BK290) hb2) (by decide)); have NB290_294 := Aside0.mk (Ne.symm (IsS61.ne_blk hi (blk_below (g := gb290) (o := .cells #[.int .i64 0, .int .i64 0] 26 (0, 0)) (bk_ BK290) hb2) (by decide))); replace BK290 := Aside0.mk (blk_below (g := gb290) (o := .cells #[.int .i64 0, .int .i64 0] 26 (0, 0)) (bk_ BK290) hb2); (try clear hb); (try clear hb2); (try clear hk); (try clear hi)) | ((with_reducible refine gate_callee (f := 21) rfl ?_); refine goesC_ (some 14) Try.func21 #[.pointer (some ⟨g294, 0, none⟩)] ?_; (with_reducible refine (spec_l20Day.calls g294 t291 t292 t293 t295 t296 t297 w _ ?side1 ?side2 A3.out).mono ?_); (case side1 => exact IsS61.nw_); (case side2 => repeat (first | (with_reducible first | exact HB.out | apply below_alloc | apply pw_below_drewN | apply below_drew1 | refine below_set ?_ (IsS61.ge HI294.out) | refine below_set ?_ GE290.out) | exact HB.out)); rintro e w7 ⟨rfl, hi, hb, hk⟩; refine ⟨_, rfl, ?_⟩; replace BK290 := Aside0.mk (KeepBut.blk hk (g' := gb290) (o := .cells #[.int .i64 0, .int .i64 0] 26 (0, 0)) (bk_ BK290) NB290_294.out (by simp)); replace HB := Aside0.mk (hb); replace HI294 := Aside0.mk (hi); (try clear hb); (try clear hb2); (try clear hk); (try clear hi)) | ((with_reducible refine gate_callee (f := 22) rfl ?_); refine goesC_ (some 17) Try.func22 #[.slice A0 l0.length c0] ?_; (with_reducible refine (spec_DrawIsMember.calls k _ _ l0 t298 t301 t302 t303 _ ?side1 ?side2 A4.out).mono ?_); (case side1 => repeat (first | exact (Kd.C_below HR0.out HB.out) | (with_reducible refine Kd.C_alloc ?_ _) | (with_reducible refine Kd.C_drewN ?_ _) | (with_reducible refine Kd.C_drew ?_))); (case side2 => exact HC0.out); rintro e w8 ⟨v299, rfl, ho0, hb⟩; refine ⟨_, rfl, ?_⟩; have HO300 := Aside0.mk (Kd.R_lower ho0 (below_size (by repeat (first | (with_reducible first | exact HB.out | apply below_alloc | apply pw_below_drewN | apply below_drew1 | refine below_set ?_ (IsS61.ge HI294.out) | refine below_set ?_ GE290.out) | exact HB.out)))); replace BK290 := bkb_ BK290 hb; replace HB := Aside0.mk (below_step (by repeat (first | (with_reducible first | exact HB.out | apply below_alloc | apply pw_below_drewN | apply below_drew1 | refine below_set ?_ (IsS61.ge HI294.out) | refine below_set ?_ GE290.out) | exact HB.out)) hb); replace HI294 := Aside0.mk (IsS61.below (by exact IsS61.nw_) hb); (try clear hb); (try clear hb2); (try clear hk); (try clear hi); (try clear ho0)) | ((with_reducible refine gate_dst (N := 9) rfl ?_); refine box_event ?hg (N := 9) ?hd (cs := #[.int .i64 0, .int .i64 0]) (t := 26) ?hr ?_; (case hd => rfl); (case hg => rfl); (case hr => first | (go_simp; done) | (go_simp; rfl)); intro gb304 hg w9 hbox hb; replace HO300 := hob_ HO300 hb; have BK304 := Aside0.mk (hbox); have GW304 := Aside0.mk ((by rw [hg]; exact (below_size (by repeat (first | (with_reducible first | exact HB.out | apply below_alloc | apply pw_below_drewN | apply below_drew1 | refine below_set ?_ (IsS61.ge HI294.out) | refine below_set ?_ GE290.out) | exact HB.out))) : w.heap.size ≤ gb304)); have GE304 := Aside0.mk ((by rw [hg]; exact (below_size (by repeat (first | (with_reducible first | exact HB.out | apply below_alloc | apply pw_below_drewN | apply below_drew1 | refine below_set ?_ (IsS61.ge HI294.out) | refine below_set ?_ GE290.out) | exact HB.out))) : w.heap.size ≤ gb304)); replace HB := Aside0.mk (below_step (by repeat (first | (with_reducible first | exact HB.out | apply below_alloc | apply pw_below_drewN | apply below_drew1 | refine below_set ?_ (IsS61.ge HI294.out) | refine below_set ?_ GE290.out) | exact HB.out)) hb); have NB290_304 := nl_ hg BK290; have NB304_290 := nr_ hg BK290; replace BK290 := bkb_ BK290 hb; have NB294_304 := Aside0.mk ((by rw [hg]; exact Nat.ne_of_lt (IsS61.lt (show IsS61 w _ g294 t291 t296 t297 from by exact IsS61.nw_)) : g294 ≠ gb304)); have NB304_294 := Aside0.mk ((by rw [hg]; exact Nat.ne_of_gt (IsS61.lt (show IsS61 w _ g294 t291 t296 t297 from by exact IsS61.nw_)) : gb304 ≠ g294)); replace HI294 := Aside0.mk (IsS61.below (by exact IsS61.nw_) hb); clear hb hbox hg; have hnb10 := NB304_290.out; have hnc10 := NB290_304.out; have hnb11 := NB304_294.out; have hnc11 := NB294_304.out; have hcz12 := blk_cell BK304.out; have hfz12 := blk_frozen BK304.out))
 have n0_ : Aside0 (Kd.R k48 48 ((w9.setCell ⟨gb304, 0, none⟩ (.int .i64 t301)).setCell ⟨gb304, 1, none⟩ (.int .i64 t302)) w.heap.size (fun _ => True) v299 t298) := ⟨by (with_reducible repeat (first | apply Kd.R_alloc | apply Kd.R_drewN | apply Kd.R_drew)); exact Kd.R_mono (Kd.R_far (p := ⟨gb304, 1, none⟩) (Kd.R_far (p := ⟨gb304, 0, none⟩) (Kd.R_types HO300.out BK304.out (by decide)) (fun _ hk => hk.2) (.int .i64 t301)) (fun _ hk => hk.2) (.int .i64 t302)) (fun _ hk => trivial)⟩
 have n1_ : Aside0 (((w9.setCell ⟨gb304, 0, none⟩ (.int .i64 t301)).setCell ⟨gb304, 1, none⟩ (.int .i64 t302)).heap[gb290]? = some (.cells #[.int .i64 0, .int .i64 0] 26 (0, 0))) := ⟨bk_ BK290⟩
 have n2_ : Aside0 (((w9.setCell ⟨gb304, 0, none⟩ (.int .i64 t301)).setCell ⟨gb304, 1, none⟩ (.int .i64 t302)).heap[gb304]? = some (.cells #[.int .i64 t301, .int .i64 t302] 26 (0, 0))) := ⟨bk_ BK304⟩
 have n3_ : Aside0 (IsS61 w ((w9.setCell ⟨gb304, 0, none⟩ (.int .i64 t301)).setCell ⟨gb304, 1, none⟩ (.int .i64 t302)) g294 t291 t296 t297) := ⟨by exact IsS61.nw_⟩
 have n4_ : Aside0 (Below w.heap.size w ((w9.setCell ⟨gb304, 0, none⟩ (.int .i64 t301)).setCell ⟨gb304, 1, none⟩ (.int .i64 t302))) := ⟨by repeat (first | (with_reducible first | exact HB.out | apply below_alloc | apply pw_below_drewN | apply below_drew1 | refine below_set ?_ (IsS61.ge HI294.out) | refine below_set ?_ GE290.out | refine below_set ?_ GE304.out) | exact HB.out)⟩
 (try clear HO300)
 (try clear BK290)
 (try clear BK304)
 (try clear HI294)
 (try clear HB)
 generalize ((w9.setCell ⟨gb304, 0, none⟩ (.int .i64 t301)).setCell ⟨gb304, 1, none⟩ (.int .i64 t302)) = w13 at n0_ n1_ n2_ n3_ n4_ ⊢
 have HO300 := n0_
 have BK290 := n1_
 have BK304 := n2_
 have HI294 := n3_
 have HB := n4_
 clear n0_ n1_ n2_ n3_ n4_
 replace HO300 := Aside0.mk (Kd.R_drew HO300.out)
 replace BK290 := Aside0.mk (blk_drew BK290.out)
 replace BK304 := Aside0.mk (blk_drew BK304.out)
 replace HI294 := Aside0.mk (IsS61.drew HI294.out)
 replace HB := Aside0.mk (below_drew1 HB.out)
 refine start_ (n := 8) (S := fun w' => w'.cell? ⟨gb304, 0, none⟩ = some (.int .i64 t301) ∧ w'.cell? ⟨gb304, 1, none⟩ = some (.int .i64 t302)) (ds := []) #[false, false, false, false, false, false, false, false] (by kernel_rfl) rfl rfl ⟨(blk_cell BK304.out 0).trans rfl, (blk_cell BK304.out 1).trans rfl⟩ (fun hHeld => ?_); refine with_tabW spec_DrawHoldsAt.tab4 spec_DrawHoldsAt.bits4 (fun HT_ HW_ => ?_)
 generalize w13.drew = w14 at HO300 BK290 BK304 HI294 HB hHeld ⊢
 refine pureZ_ (i := 0) (some 21) #[true, false, false, false, false, false, false, false] (any_of HT_.out (by kernel_rfl)) ?_
 refine pureZ_ (i := 2) (some 23) #[true, false, true, false, false, false, false, false] (any_of HT_.out (by kernel_rfl)) ?_
 refine pureZ_ (i := 3) (some 24) #[true, false, true, true, false, false, false, false] (any_of HT_.out (by kernel_rfl)) ?_
 refine pureZ_ (i := 4) (some 2) #[true, false, true, true, true, false, false, false] (any_of HT_.out (by kernel_rfl)) ?_
 refine takeZ_ (i := 1) (some 22) #[true, true, true, true, true, false, false, false] (take_ofW HT_.out HW_.out (by kernel_rfl)) hHeld ?_
 refine one_ (i := 5) (N := none) #[true, true, true, true, true, true, false, false] rfl rfl (one_of HT_.out (by kernel_rfl)) (by decide) (fun K hK => ?_)
 have hs15 : w14.cell? ⟨gb290, 0, none⟩ = some (.int .i64 0) := (blk_cell BK290.out 0).trans rfl
 have hfs15 := blk_frozen BK290.out 0
 have hns15_1 := NB304_290.out
 have hms15_1 := NB290_304.out
 have hs16 : w14.cell? ⟨gb290, 1, none⟩ = some (.int .i64 0) := (blk_cell BK290.out 1).trans rfl
 have hfs16 := blk_frozen BK290.out 1
 have hns16_1 := NB304_290.out
 have hms16_1 := NB290_304.out
 refine skip_ (w1 := ?_) (by rfl) rfl ?_ ?_
 rotate_left
 ·go_simp
  rfl
 refine hK.out _ _ ⟨((cell_far (p := ⟨gb290, _, none⟩) NB304_290.out _).trans (((cell_far (p := ⟨gb290, _, none⟩) NB304_290.out _).trans (hHeld.1)))), ((cell_far (p := ⟨gb290, _, none⟩) NB304_290.out _).trans (((cell_far (p := ⟨gb290, _, none⟩) NB304_290.out _).trans (hHeld.2))))⟩ (fun hHeld => ?_)
 clear hK K
 refine pureZ_ (i := 6) (some 4) #[true, true, true, true, true, true, true, false] (any_of HT_.out (by kernel_rfl)) ?_
 refine pureZ_ (i := 7) (some 5) #[true, true, true, true, true, true, true, true] (any_of HT_.out (by kernel_rfl)) ?_
 refine done_ (done_of HT_.out (by kernel_rfl)) ?_
 try go_wp2
 refine bodyPost_ret (results_list (rs := [.tmp 2, .cell 3 26, .tmp 4, .tmp 5]) rfl (by simp) (.tmp (.cell gb290 26 #[.int .i64 t301, .int .i64 t302] (0, 0) _ rfl (bk_ BK290) Try.underlying26 rfl (by kernel_rfl) (.tmp (.tmp .nil))))) rfl ?_
 exact ⟨_, eq_, by (with_reducible repeat (first | apply Kd.R_alloc | apply Kd.R_drewN | apply Kd.R_drew)); exact Kd.R_mono (Kd.R_far (p := ⟨gb290, 1, none⟩) (Kd.R_far (p := ⟨gb290, 0, none⟩) (Kd.R_types HO300.out BK290.out (by decide)) (fun _ hk => hk.2) (.int .i64 t301)) (fun _ hk => hk.2) (.int .i64 t302)) (fun _ hk => trivial), by repeat (first | (with_reducible first | exact HB.out | apply below_alloc | apply pw_below_drewN | apply below_drew1 | refine below_set ?_ (IsS61.ge HI294.out) | refine below_set ?_ GE290.out | refine below_set ?_ GE304.out) | exact HB.out)⟩
def spec_DrawFactsOf.f (k : Nat) (l0 : List Int) : Option ((List (S48))) := (spec_l01New.f k l0).bind fun bt305 => ((spec_l06Any.f k bt305.1 bt305.2.1 bt305.2.2).bind fun bt309 => (some bt309.1))
set_option maxHeartbeats 8000000 in
set_option maxRecDepth 100000 in
theorem spec_DrawFactsOf.calls (k : Nat) (A0 : Option Addr) (c0 : Nat) (l0 : List Int) (r : List (S48)) (w : World) (hr0 : Kd.C (Kd.int .u8) w A0 l0.length l0) (hc0 : l0.length ≤ c0) (h : spec_DrawFactsOf.f k l0 = some r) :
  Calls Try.prog 23 #[.slice A0 l0.length c0] w fun e w' => ∃ v0_ : Value, e = .returned (v0_) ∧ Kd.R k48 48 w' w.heap.size (fun _ => True) v0_ r ∧ Below w.heap.size w w' := by
 have HR0 := Aside0.mk hr0
 have HC0 := Aside0.mk hc0
 clear hr0 hc0
 have HB := Aside0.mk (Below.refl w.heap.size w)
 have H : ((spec_l01New.f k l0).bind fun bt305 => ((spec_l06Any.f k bt305.1 bt305.2.1 bt305.2.2).bind fun bt309 => (some bt309.1))) = some r := h
 clear h
 obtain ⟨⟨t305, t306, t307⟩, A2, H⟩ := bindE_ H
 replace H : ((spec_l06Any.f k t305 t306 t307).bind fun bt309 => (some bt309.1)) = some r := H
 obtain ⟨⟨t309, t312, t313⟩, A3, H⟩ := bindE_ H
 replace H : (some t309) = some r := H
 obtain rfl := Option.some.inj H
 go_enter Try.func23, Try.ntmps23
 go_wp2_with (first | ((with_reducible refine gate_callee (f := 20) rfl ?_); refine goesC_ (some 4) Try.func20 #[.slice A0 l0.length c0] ?_; (with_reducible refine (spec_l01New.calls k _ _ l0 t305 t306 t307 w _ ?side1 ?side2 ?side3 A2.out).mono ?_); (case side1 => repeat (first | (with_reducible first | exact HB.out | apply below_alloc | apply pw_below_drewN | apply below_drew1) | exact HB.out)); (case side2 => exact HR0.out); (case side3 => exact HC0.out); rintro e w4 ⟨g308, rfl, hi, hb, hb2⟩; refine ⟨_, rfl, ?_⟩; replace HB := Aside0.mk (hb); have HI308 := Aside0.mk (hi); (try clear hb); (try clear hb2); (try clear hk); (try clear hi)) | ((with_reducible refine gate_callee (f := 45) rfl ?_); refine goesC_ (some 5) Try.func45 #[.pointer (some ⟨g308, 0, none⟩)] ?_; (with_reducible refine (spec_l06Any.calls k g308 t305 t306 t307 t309 t312 t313 w _ ?side1 ?side2 A3.out).mono ?_); (case side1 => exact IsS61.nw_); (case side2 => repeat (first | (with_reducible first | exact HB.out | apply below_alloc | apply pw_below_drewN | apply below_drew1 | refine below_set ?_ (IsS61.ge HI308.out)) | exact HB.out)); rintro e w5 ⟨v310, rfl, ho0, hi, hb, hk⟩; refine ⟨_, rfl, ?_⟩; have HO311 := Aside0.mk (Kd.R_lower ho0 (below_size (by repeat (first | (with_reducible first | exact HB.out | apply below_alloc | apply pw_below_drewN | apply below_drew1 | refine below_set ?_ (IsS61.ge HI308.out)) | exact HB.out)))); replace HB := Aside0.mk (hb); replace HI308 := Aside0.mk (hi); (try clear hb); (try clear hb2); (try clear hk); (try clear hi); (try clear ho0)))
 go_ret
 exact ⟨_, eq_, by (with_reducible repeat (first | apply Kd.R_alloc | apply Kd.R_drewN | apply Kd.R_drew)); exact HO311.out, by repeat (first | (with_reducible first | exact HB.out | apply below_alloc | apply pw_below_drewN | apply below_drew1 | refine below_set ?_ (IsS61.ge HI308.out)) | exact HB.out)⟩
def spec_DrawEndsOf.f (k : Nat) (l0 : List Int) : Option ((List (S48))) := (spec_DrawFactsOf.f k l0).bind fun t314 => (some t314)
set_option maxHeartbeats 8000000 in
set_option maxRecDepth 100000 in
theorem spec_DrawEndsOf.calls (k : Nat) (A0 : Option Addr) (c0 : Nat) (l0 : List Int) (r : List (S48)) (w : World) (hr0 : Kd.C (Kd.int .u8) w A0 l0.length l0) (hc0 : l0.length ≤ c0) (h : spec_DrawEndsOf.f k l0 = some r) :
  Calls Try.prog 6 #[.slice A0 l0.length c0] w fun e w' => ∃ v0_ : Value, e = .returned (v0_) ∧ Kd.R k48 48 w' w.heap.size (fun _ => True) v0_ r ∧ Below w.heap.size w w' := by
 have HR0 := Aside0.mk hr0
 have HC0 := Aside0.mk hc0
 clear hr0 hc0
 have HB := Aside0.mk (Below.refl w.heap.size w)
 have H : ((spec_DrawFactsOf.f k l0).bind fun t314 => (some t314)) = some r := h
 clear h
 obtain ⟨t314, A2, H⟩ := bindE_ H
 obtain rfl := Option.some.inj H
 go_enter Try.func6, Try.ntmps6
 go_wp2_with (first | ((with_reducible refine gate_callee (f := 23) rfl ?_); refine goesC_ (some 4) Try.func23 #[.slice A0 l0.length c0] ?_; (with_reducible refine (spec_DrawFactsOf.calls k _ _ l0 t314 _ ?side1 ?side2 A2.out).mono ?_); (case side1 => repeat (first | exact HR0.out | (with_reducible refine Kd.C_alloc ?_ _) | (with_reducible refine Kd.C_drewN ?_ _) | (with_reducible refine Kd.C_drew ?_))); (case side2 => exact HC0.out); rintro e w3 ⟨v315, rfl, ho0, hb⟩; refine ⟨_, rfl, ?_⟩; have HO316 := Aside0.mk (Kd.R_lower ho0 bls_); replace HB := hbs_ hb; (try clear hb); (try clear hb2); (try clear hk); (try clear hi); (try clear ho0)))
 go_ret
 exact ⟨_, eq_, by (with_reducible repeat (first | apply Kd.R_alloc | apply Kd.R_drewN | apply Kd.R_drew)); exact HO316.out, bl_⟩
def spec_DrawStillAt.f (k : Nat) (l0 : List Int) : Option ((List (S48)) × Int) := (spec_l01New.f k l0).bind fun bt317 => ((spec_l20Day.f bt317.1 bt317.2.1 bt317.2.2).bind fun bt321 => ((spec_l06Any.f k bt317.1 bt321.2.1 bt321.2.2).bind fun bt324 => (some (bt324.1, bt321.1))))
set_option maxHeartbeats 8000000 in
set_option maxRecDepth 100000 in
theorem spec_DrawStillAt.calls (k : Nat) (A0 : Option Addr) (c0 : Nat) (l0 : List Int) (r1 : List (S48)) (r2 : Int) (w : World) (hr0 : Kd.C (Kd.int .u8) w A0 l0.length l0) (hc0 : l0.length ≤ c0) (h : spec_DrawStillAt.f k l0 = some (r1, r2)) :
  Calls Try.prog 24 #[.slice A0 l0.length c0] w fun e w' => ∃ v0_ : Value, e = .returned (.tuple #[v0_, .int .i64 r2]) ∧ Kd.R k48 48 w' w.heap.size (fun _ => True) v0_ r1 ∧ Below w.heap.size w w' := by
 have HR0 := Aside0.mk hr0
 have HC0 := Aside0.mk hc0
 clear hr0 hc0
 have HB := Aside0.mk (Below.refl w.heap.size w)
 have H : ((spec_l01New.f k l0).bind fun bt317 => ((spec_l20Day.f bt317.1 bt317.2.1 bt317.2.2).bind fun bt321 => ((spec_l06Any.f k bt317.1 bt321.2.1 bt321.2.2).bind fun bt324 => (some (bt324.1, bt321.1))))) = some (r1, r2) := h
 clear h
 obtain ⟨⟨t317, t318, t319⟩, A2, H⟩ := bindE_ H
 replace H : ((spec_l20Day.f t317 t318 t319).bind fun bt321 => ((spec_l06Any.f k t317 bt321.2.1 bt321.2.2).bind fun bt324 => (some (bt324.1, bt321.1)))) = some (r1, r2) := H
 obtain ⟨⟨t321, t322, t323⟩, A3, H⟩ := bindE_ H
 replace H : ((spec_l06Any.f k t317 t322 t323).bind fun bt324 => (some (bt324.1, t321))) = some (r1, r2) := H
 obtain ⟨⟨t324, t327, t328⟩, A4, H⟩ := bindE_ H
 replace H : (some (t324, t321)) = some (r1, r2) := H
 simp only [Option.some.injEq, Prod.mk.injEq] at H
 obtain ⟨rfl, rfl⟩ := H
 go_enter Try.func24, Try.ntmps24
 go_wp2_with (first | ((with_reducible refine gate_callee (f := 20) rfl ?_); refine goesC_ (some 7) Try.func20 #[.slice A0 l0.length c0] ?_; (with_reducible refine (spec_l01New.calls k _ _ l0 t317 t318 t319 w _ ?side1 ?side2 ?side3 A2.out).mono ?_); (case side1 => repeat (first | (with_reducible first | exact HB.out | apply below_alloc | apply pw_below_drewN | apply below_drew1) | exact HB.out)); (case side2 => exact HR0.out); (case side3 => exact HC0.out); rintro e w5 ⟨g320, rfl, hi, hb, hb2⟩; refine ⟨_, rfl, ?_⟩; replace HB := Aside0.mk (hb); have HI320 := Aside0.mk (hi); (try clear hb); (try clear hb2); (try clear hk); (try clear hi)) | ((with_reducible refine gate_callee (f := 21) rfl ?_); refine goesC_ (some 9) Try.func21 #[.pointer (some ⟨g320, 0, none⟩)] ?_; (with_reducible refine (spec_l20Day.calls g320 t317 t318 t319 t321 t322 t323 w _ ?side1 ?side2 A3.out).mono ?_); (case side1 => exact IsS61.nw_); (case side2 => repeat (first | (with_reducible first | exact HB.out | apply below_alloc | apply pw_below_drewN | apply below_drew1 | refine below_set ?_ (IsS61.ge HI320.out)) | exact HB.out)); rintro e w6 ⟨rfl, hi, hb, hk⟩; refine ⟨_, rfl, ?_⟩; replace HB := Aside0.mk (hb); replace HI320 := Aside0.mk (hi); (try clear hb); (try clear hb2); (try clear hk); (try clear hi)) | ((with_reducible refine gate_callee (f := 45) rfl ?_); refine goesC_ (some 11) Try.func45 #[.pointer (some ⟨g320, 0, none⟩)] ?_; (with_reducible refine (spec_l06Any.calls k g320 t317 t322 t323 t324 t327 t328 w _ ?side1 ?side2 A4.out).mono ?_); (case side1 => exact IsS61.nw_); (case side2 => repeat (first | (with_reducible first | exact HB.out | apply below_alloc | apply pw_below_drewN | apply below_drew1 | refine below_set ?_ (IsS61.ge HI320.out)) | exact HB.out)); rintro e w7 ⟨v325, rfl, ho0, hi, hb, hk⟩; refine ⟨_, rfl, ?_⟩; have HO326 := Aside0.mk (Kd.R_lower ho0 (below_size (by repeat (first | (with_reducible first | exact HB.out | apply below_alloc | apply pw_below_drewN | apply below_drew1 | refine below_set ?_ (IsS61.ge HI320.out)) | exact HB.out)))); replace HB := Aside0.mk (hb); replace HI320 := Aside0.mk (hi); (try clear hb); (try clear hb2); (try clear hk); (try clear hi); (try clear ho0)))
 go_ret2
 exact ⟨_, eq_, by (with_reducible repeat (first | apply Kd.R_alloc | apply Kd.R_drewN | apply Kd.R_drew)); exact HO326.out, by repeat (first | (with_reducible first | exact HB.out | apply below_alloc | apply pw_below_drewN | apply below_drew1 | refine below_set ?_ (IsS61.ge HI320.out)) | exact HB.out)⟩
def spec_DrawLostAt.f (k : Nat) (l0 : List Int) : Option ((List (S48)) × Int) := (spec_DrawStillAt.f k l0).bind fun bt329 => (some (bt329.1, bt329.2))
set_option maxHeartbeats 8000000 in
set_option maxRecDepth 100000 in
theorem spec_DrawLostAt.calls (k : Nat) (A0 : Option Addr) (c0 : Nat) (l0 : List Int) (r1 : List (S48)) (r2 : Int) (w : World) (hr0 : Kd.C (Kd.int .u8) w A0 l0.length l0) (hc0 : l0.length ≤ c0) (h : spec_DrawLostAt.f k l0 = some (r1, r2)) :
  Calls Try.prog 7 #[.slice A0 l0.length c0] w fun e w' => ∃ v0_ : Value, e = .returned (.tuple #[v0_, .int .i64 r2]) ∧ Kd.R k48 48 w' w.heap.size (fun _ => True) v0_ r1 ∧ Below w.heap.size w w' := by
 have HR0 := Aside0.mk hr0
 have HC0 := Aside0.mk hc0
 clear hr0 hc0
 have HB := Aside0.mk (Below.refl w.heap.size w)
 have H : ((spec_DrawStillAt.f k l0).bind fun bt329 => (some (bt329.1, bt329.2))) = some (r1, r2) := h
 clear h
 obtain ⟨⟨t329, t330⟩, A2, H⟩ := bindE_ H
 replace H : (some (t329, t330)) = some (r1, r2) := H
 simp only [Option.some.injEq, Prod.mk.injEq] at H
 obtain ⟨rfl, rfl⟩ := H
 go_enter Try.func7, Try.ntmps7
 go_wp2_with (first | ((with_reducible refine gate_callee (f := 24) rfl ?_); refine goesC_ (some 5) Try.func24 #[.slice A0 l0.length c0] ?_; (with_reducible refine (spec_DrawStillAt.calls k _ _ l0 t329 t330 _ ?side1 ?side2 A2.out).mono ?_); (case side1 => repeat (first | exact HR0.out | (with_reducible refine Kd.C_alloc ?_ _) | (with_reducible refine Kd.C_drewN ?_ _) | (with_reducible refine Kd.C_drew ?_))); (case side2 => exact HC0.out); rintro e w3 ⟨v331, rfl, ho0, hb⟩; refine ⟨_, rfl, ?_⟩; have HO332 := Aside0.mk (Kd.R_lower ho0 bls_); replace HB := hbs_ hb; (try clear hb); (try clear hb2); (try clear hk); (try clear hi); (try clear ho0)))
 go_ret2
 exact ⟨_, eq_, by (with_reducible repeat (first | apply Kd.R_alloc | apply Kd.R_drewN | apply Kd.R_drew)); exact HO332.out, bl_⟩
def impl_in.f (a0 : Int) (a1 : Int) (a2 : Int) : Option (Bool) := if a0 ≥ a1 then (some (decide (a0 ≤ a2))) else (some false)
set_option maxHeartbeats 8000000 in
set_option maxRecDepth 100000 in
theorem impl_in.calls (a0 : Int) (a1 : Int) (a2 : Int) (r : Bool) (w : World) (h : impl_in.f a0 a1 a2 = some r) :
  Calls Try.prog 36 #[.int .i64 a0, .int .i64 a1, .int .i64 a2] w fun e w' => e = .returned (.bool r) ∧ Drawn0 w w' := by
 have H : (if a0 ≥ a1 then (some (decide (a0 ≤ a2))) else (some false)) = some r := h
 clear h
 by_cases c4 : a0 ≥ a1
 ·rw [if_pos c4] at H
  have c4b0 : decide (a1 ≤ a0) = true := decide_eq_true c4
  clear c4
  obtain rfl := Option.some.inj H
  go_enter Try.func36, Try.ntmps36
  go_wp2
  go_ret
  exact ⟨by first | rfl | (simp; done) | (simp [*]; done), by repeat (first | exact Drawn0.refl _ | apply Drawn0.step)⟩
 ·rw [if_neg c4] at H
  have c4b0 : decide (a1 ≤ a0) = false := decide_eq_false c4
  clear c4
  obtain rfl := Option.some.inj H
  go_enter Try.func36, Try.ntmps36
  go_wp2
  go_ret
  exact ⟨by first | rfl | (simp; done) | (simp [*]; done), by repeat (first | exact Drawn0.refl _ | apply Drawn0.step)⟩
def impl_RoleOk.f (a0_0 : Int) (a0_1 : Int) : Option (Bool) := (impl_in.f a0_0 0 5).bind fun t334 => (if t334 = true then ((impl_in.f a0_1 0 3).bind fun t335 => (some t335)) else (some false))
set_option maxHeartbeats 8000000 in
set_option maxRecDepth 100000 in
theorem impl_RoleOk.calls (a0_0 : Int) (a0_1 : Int) (r : Bool) (w : World) (h : impl_RoleOk.f a0_0 a0_1 = some r) :
  Calls Try.prog 46 #[.agg #[.int .i64 a0_0, .int .i64 a0_1]] w fun e w' => e = .returned (.bool r) ∧ Below w.heap.size w w' := by
 have hu26 := Try.underlying26
 have HB := Aside0.mk (Below.refl w.heap.size w)
 have H : ((impl_in.f a0_0 0 5).bind fun t334 => (if t334 = true then ((impl_in.f a0_1 0 3).bind fun t335 => (some t335)) else (some false))) = some r := h
 clear h
 obtain ⟨t334, A2, H⟩ := bindE_ H
 by_cases c3 : t334 = true
 ·subst c3
  replace H := ite_t_ H
  obtain ⟨t335, A4, H⟩ := bindE_ H
  obtain rfl := Option.some.inj H
  go_enter Try.func46, Try.ntmps46
  go_wp2_with (first | ((with_reducible refine gate_dst (N := 1) rfl ?_); refine box_event ?hg (N := 1) ?hd (cs := #[.int .i64 a0_0, .int .i64 a0_1]) (t := 26) ?hr ?_; (case hd => rfl); (case hg => rfl); (case hr => first | (go_simp; done) | (go_simp; rfl)); intro gb333 hg w5 hbox hb; have BK333 := Aside0.mk (hbox); have GW333 := gs_ hg; have GE333 := gs_ hg; replace HB := hbs_ hb; clear hb hbox hg; have hcz6 := blk_cell BK333.out; have hfz6 := blk_frozen BK333.out) | ((with_reducible refine gate_callee (f := 36) rfl ?_); refine goesC_ (some 5) Try.func36 #[.int .i64 a0_0, .int .i64 0, .int .i64 5] ?_; (with_reducible refine (impl_in.calls a0_0 0 5 true _ A2.out).mono ?_); rintro e w' ⟨rfl, ⟨nd, rfl⟩⟩; refine ⟨_, rfl, ?_⟩) | (go_at_call 36; (with_reducible refine (impl_in.calls a0_1 0 3 t335 _ A4.out).mono ?_); rintro e w' ⟨rfl, ⟨nd, rfl⟩⟩))
  go_ret
  exact ⟨eq_, bl_⟩
 ·replace c3 := Bool.eq_false_iff.mpr c3
  subst c3
  replace H := ite_f_ H
  obtain rfl := Option.some.inj H
  go_enter Try.func46, Try.ntmps46
  go_wp2_with (first | ((with_reducible refine gate_dst (N := 1) rfl ?_); refine box_event ?hg (N := 1) ?hd (cs := #[.int .i64 a0_0, .int .i64 a0_1]) (t := 26) ?hr ?_; (case hd => rfl); (case hg => rfl); (case hr => first | (go_simp; done) | (go_simp; rfl)); intro gb333 hg w7 hbox hb; have BK333 := Aside0.mk (hbox); have GW333 := gs_ hg; have GE333 := gs_ hg; replace HB := hbs_ hb; clear hb hbox hg; have hcz8 := blk_cell BK333.out; have hfz8 := blk_frozen BK333.out) | ((with_reducible refine gate_callee (f := 36) rfl ?_); refine goesC_ (some 5) Try.func36 #[.int .i64 a0_0, .int .i64 0, .int .i64 5] ?_; (with_reducible refine (impl_in.calls a0_0 0 5 false _ A2.out).mono ?_); rintro e w' ⟨rfl, ⟨nd, rfl⟩⟩; refine ⟨_, rfl, ?_⟩))
  go_ret
  exact ⟨eq_, bl_⟩
def impl_isPerson.f (a0 : Int) : Option (Bool) := (impl_in.f a0 0 5).bind fun t336 => (some t336)
set_option maxHeartbeats 8000000 in
set_option maxRecDepth 100000 in
theorem impl_isPerson.calls (a0 : Int) (r : Bool) (w : World) (h : impl_isPerson.f a0 = some r) :
  Calls Try.prog 47 #[.int .i64 a0] w fun e w' => e = .returned (.bool r) ∧ Drawn0 w w' := by
 have H : ((impl_in.f a0 0 5).bind fun t336 => (some t336)) = some r := h
 clear h
 obtain ⟨t336, A2, H⟩ := bindE_ H
 obtain rfl := Option.some.inj H
 go_enter Try.func47, Try.ntmps47
 go_wp2_with (first | ((with_reducible refine gate_callee (f := 36) rfl ?_); refine goesC_ (some 4) Try.func36 #[.int .i64 a0, .int .i64 0, .int .i64 5] ?_; (with_reducible refine (impl_in.calls a0 0 5 t336 _ A2.out).mono ?_); rintro e w' ⟨rfl, ⟨nd, rfl⟩⟩; refine ⟨_, rfl, ?_⟩))
 go_ret
 exact ⟨by first | rfl | (simp; done) | (simp [*]; done), by repeat (first | exact Drawn0.refl _ | apply Drawn0.step)⟩
end Go.Proofs.Yteehgihclnlaoaa.PA
