import Derived.Test.YtnoklfpnmopkpaaKPPEx7
-- printed by wip/tools
namespace Go.Proofs.Ytnoklfpnmopkpaa.PE
open Go.RowKit Go.Proofs.YtnoklfpnmopkpaaW.PrintWords Go.Proofs.YtnoklfpnmopkpaaW.PrintLast Go.Proofs.YtnoklfpnmopkpaaW.PrintMore
attribute [local go_sem] max2_int min2_int max_two min_two max_three min_three max_four min_four
set_option linter.unusedVariables false
set_option linter.unusedSimpArgs false
def spec_l05Any.f (s0_0 : List Int) (s0_1 : Int) (s0_2 : Int) : Option (Int × Int × Int × Int × Int × Int × Int × Int × Int × Int × Int × Int) := (spec_l01Below.f s0_0 s0_1 s0_2 10).bind fun bt249 => ((spec_l01Below.f s0_0 bt249.2.1 bt249.2.2 60).bind fun bt252 => ((spec_l05Cred.f s0_0 bt252.2.1 bt252.2.2).bind fun bt255 => (if bt249.1 = 0 then (some (Int.tmod bt252.1 6, bt255.2.1, bt255.2.2.1, bt255.2.2.2.1, bt255.2.2.2.2.1, bt255.2.2.2.2.2.1, bt255.2.2.2.2.2.2.1, bt255.2.2.2.2.2.2.2.1, bt255.2.2.2.2.2.2.2.2.1, bt255.2.2.2.2.2.2.2.2.2.1, bt255.2.2.2.2.2.2.2.2.2.2.1, bt255.2.2.2.2.2.2.2.2.2.2.2)) else (if bt249.1 = 1 then (some (bt255.1, bt255.2.1, bt255.2.2.1, wrap64 ((Int.tmod bt252.1 9) - 1), bt255.2.2.2.2.1, bt255.2.2.2.2.2.1, bt255.2.2.2.2.2.2.1, bt255.2.2.2.2.2.2.2.1, bt255.2.2.2.2.2.2.2.2.1, bt255.2.2.2.2.2.2.2.2.2.1, bt255.2.2.2.2.2.2.2.2.2.2.1, bt255.2.2.2.2.2.2.2.2.2.2.2)) else (if bt249.1 = 2 then (some (bt255.1, bt255.2.1, bt255.2.2.1, bt255.2.2.2.1, Int.tmod bt252.1 8, Int.tmod bt252.1 5, bt255.2.2.2.2.2.2.1, bt255.2.2.2.2.2.2.2.1, bt255.2.2.2.2.2.2.2.2.1, bt255.2.2.2.2.2.2.2.2.2.1, bt255.2.2.2.2.2.2.2.2.2.2.1, bt255.2.2.2.2.2.2.2.2.2.2.2)) else (if bt249.1 = 3 then (some (bt255.1, bt255.2.1, bt255.2.2.1, bt255.2.2.2.1, bt255.2.2.2.2.1, bt255.2.2.2.2.2.1, Int.tmod bt252.1 3, bt255.2.2.2.2.2.2.2.1, bt255.2.2.2.2.2.2.2.2.1, bt255.2.2.2.2.2.2.2.2.2.1, bt255.2.2.2.2.2.2.2.2.2.2.1, bt255.2.2.2.2.2.2.2.2.2.2.2)) else (if bt249.1 = 4 then ((some (([0, 10000, 1] : List Int) : List Int)).bind fun y268 => (if 0 ≤ (Int.tmod bt252.1 3) then (if (Int.tmod bt252.1 3) < (y268.length : Int) then (some (bt255.1, bt255.2.1, bt255.2.2.1, bt255.2.2.2.1, bt255.2.2.2.2.1, bt255.2.2.2.2.2.1, bt255.2.2.2.2.2.2.1, bt255.2.2.2.2.2.2.2.1, rd y268 (Int.tmod bt252.1 3), bt255.2.2.2.2.2.2.2.2.2.1, bt255.2.2.2.2.2.2.2.2.2.2.1, bt255.2.2.2.2.2.2.2.2.2.2.2)) else (none)) else (none))) else (some (bt255.1, bt255.2.1, bt255.2.2.1, bt255.2.2.2.1, bt255.2.2.2.2.1, bt255.2.2.2.2.2.1, bt255.2.2.2.2.2.2.1, bt255.2.2.2.2.2.2.2.1, bt255.2.2.2.2.2.2.2.2.1, bt255.2.2.2.2.2.2.2.2.2.1, bt255.2.2.2.2.2.2.2.2.2.2.1, bt255.2.2.2.2.2.2.2.2.2.2.2)))))))))
set_option maxHeartbeats 8000000 in
set_option maxRecDepth 100000 in
theorem spec_l05Any.calls (g : Nat) (s0_0 : List Int) (s0_1 : Int) (s0_2 : Int) (r1 : Int) (r2 : Int) (r3 : Int) (r4 : Int) (r5 : Int) (r6 : Int) (r7 : Int) (r8 : Int) (r9 : Int) (r10 : Int) (r11 : Int) (r12 : Int) (w0 w : World) (hI : IsS71 w0 w g s0_0 s0_1 s0_2) (hB : Below w0.heap.size w0 w) (h : spec_l05Any.f s0_0 s0_1 s0_2 = some (r1, r2, r3, r4, r5, r6, r7, r8, r9, r10, r11, r12)) :
  Calls Try.prog 50 #[.pointer (some ⟨g, 0, none⟩)] w fun e w' => e = .returned (.agg #[.int .i64 r1, .int .i64 r2, .int .i64 r3, .int .i64 r4, .int .i64 r5, .int .i64 r6, .int .i64 r7, .int .i64 r8, .int .i64 r9, .int .i64 r10]) ∧ IsS71 w0 w' g s0_0 r11 r12 ∧ Below w0.heap.size w0 w' ∧ KeepBut w w' g none := by
 have hu74 := Try.underlying74
 have hu55 := Try.underlying55
 have HI0 := aa_ hI
 have HK := aa_ (KeepBut.refl w g none)
 have HL := aa_ hB.size
 clear hI
 have HW0 := aa_ hB.size
 have HB := aa_ hB
 clear hB
 have H : ((spec_l01Below.f s0_0 s0_1 s0_2 10).bind fun bt249 => ((spec_l01Below.f s0_0 bt249.2.1 bt249.2.2 60).bind fun bt252 => ((spec_l05Cred.f s0_0 bt252.2.1 bt252.2.2).bind fun bt255 => (if bt249.1 = 0 then (some (Int.tmod bt252.1 6, bt255.2.1, bt255.2.2.1, bt255.2.2.2.1, bt255.2.2.2.2.1, bt255.2.2.2.2.2.1, bt255.2.2.2.2.2.2.1, bt255.2.2.2.2.2.2.2.1, bt255.2.2.2.2.2.2.2.2.1, bt255.2.2.2.2.2.2.2.2.2.1, bt255.2.2.2.2.2.2.2.2.2.2.1, bt255.2.2.2.2.2.2.2.2.2.2.2)) else (if bt249.1 = 1 then (some (bt255.1, bt255.2.1, bt255.2.2.1, wrap64 ((Int.tmod bt252.1 9) - 1), bt255.2.2.2.2.1, bt255.2.2.2.2.2.1, bt255.2.2.2.2.2.2.1, bt255.2.2.2.2.2.2.2.1, bt255.2.2.2.2.2.2.2.2.1, bt255.2.2.2.2.2.2.2.2.2.1, bt255.2.2.2.2.2.2.2.2.2.2.1, bt255.2.2.2.2.2.2.2.2.2.2.2)) else (if bt249.1 = 2 then (some (bt255.1, bt255.2.1, bt255.2.2.1, bt255.2.2.2.1, Int.tmod bt252.1 8, Int.tmod bt252.1 5, bt255.2.2.2.2.2.2.1, bt255.2.2.2.2.2.2.2.1, bt255.2.2.2.2.2.2.2.2.1, bt255.2.2.2.2.2.2.2.2.2.1, bt255.2.2.2.2.2.2.2.2.2.2.1, bt255.2.2.2.2.2.2.2.2.2.2.2)) else (if bt249.1 = 3 then (some (bt255.1, bt255.2.1, bt255.2.2.1, bt255.2.2.2.1, bt255.2.2.2.2.1, bt255.2.2.2.2.2.1, Int.tmod bt252.1 3, bt255.2.2.2.2.2.2.2.1, bt255.2.2.2.2.2.2.2.2.1, bt255.2.2.2.2.2.2.2.2.2.1, bt255.2.2.2.2.2.2.2.2.2.2.1, bt255.2.2.2.2.2.2.2.2.2.2.2)) else (if bt249.1 = 4 then ((some (([0, 10000, 1] : List Int) : List Int)).bind fun y268 => (if 0 ≤ (Int.tmod bt252.1 3) then (if (Int.tmod bt252.1 3) < (y268.length : Int) then (some (bt255.1, bt255.2.1, bt255.2.2.1, bt255.2.2.2.1, bt255.2.2.2.2.1, bt255.2.2.2.2.2.1, bt255.2.2.2.2.2.2.1, bt255.2.2.2.2.2.2.2.1, rd y268 (Int.tmod bt252.1 3), bt255.2.2.2.2.2.2.2.2.2.1, bt255.2.2.2.2.2.2.2.2.2.2.1, bt255.2.2.2.2.2.2.2.2.2.2.2)) else (none)) else (none))) else (some (bt255.1, bt255.2.1, bt255.2.2.1, bt255.2.2.2.1, bt255.2.2.2.2.1, bt255.2.2.2.2.2.1, bt255.2.2.2.2.2.2.1, bt255.2.2.2.2.2.2.2.1, bt255.2.2.2.2.2.2.2.2.1, bt255.2.2.2.2.2.2.2.2.2.1, bt255.2.2.2.2.2.2.2.2.2.2.1, bt255.2.2.2.2.2.2.2.2.2.2.2)))))))))) = some (r1, r2, r3, r4, r5, r6, r7, r8, r9, r10, r11, r12) := h
 clear h
 obtain ⟨⟨t249, t250, t251⟩, A2, H⟩ := bindE_ H
 (try dsimp only at H)
 obtain ⟨⟨t252, t253, t254⟩, A3, H⟩ := bindE_ H
 (try dsimp only at H)
 obtain ⟨⟨t255, t256, t257, t258, t259, t260, t261, t262, t263, t264, t265, t266⟩, A4, H⟩ := bindE_ H
 (try dsimp only at H)
 have HC5 := aa_ H
 clear H
 go_enter Try.func50, Try.ntmps50
 go_upto_if 13 with (first | ((with_reducible refine gD_ 2 rfl ?_); refine bx_ (N := 2) (cs := #[.int .i64 0, .int .i64 0, .int .i64 0, .int .i64 0, .int .i64 0, .int .i64 0, .int .i64 0, .int .i64 0, .int .i64 0, .int .i64 0]) (t := 74) ?_; intro gb248 hg w6 hbox hb; replace HB := aa_ (below_step (by exact IsS71.bw_) hb); have BK248 := aa_ (hbox); have GW248 := aa_ ((by rw [hg]; exact (keep_size (w := w) (g := g) (row := none) (by exact kp_)) : w.heap.size ≤ gb248)); have GE248 := aa_ ((Nat.le_trans HW0.out (by rw [hg]; exact (keep_size (w := w) (g := g) (row := none) (by exact kp_)) : w.heap.size ≤ gb248) : w0.heap.size ≤ gb248)); replace HK := aa_ (KeepBut.trans (by exact kp_) (KeepBut.of_below hb g none) (.inl rfl)); have NB0_248 := aa_ ((by rw [hg]; exact Nat.ne_of_lt (IsS71.lt (show IsS71 w0 _ g s0_0 s0_1 s0_2 from by exact IsS71.nw_)) : g ≠ gb248)); have NB248_0 := aa_ ((by rw [hg]; exact Nat.ne_of_gt (IsS71.lt (show IsS71 w0 _ g s0_0 s0_1 s0_2 from by exact IsS71.nw_)) : gb248 ≠ g)); replace HI0 := aa_ (IsS71.below (by exact IsS71.nw_) hb); clear hb hbox hg) | ((with_reducible refine gC_ 25 rfl ?_); refine goesC_ (some 7) Try.func25 #[.pointer (some ⟨g, 0, none⟩), .int .i64 10] ?_; (with_reducible refine (spec_l01Below.calls g s0_0 s0_1 s0_2 10 t249 t250 t251 w0 _ ?side1 ?side2 A2.out).mono ?_); (case side1 => exact IsS71.nw_); (case side2 => exact IsS71.bw_); rintro e w7 ⟨rfl, hi, hb, hk⟩; refine ⟨_, rfl, ?_⟩; replace BK248 := aa_ (KeepBut.blk hk (g' := gb248) (o := .cells #[.int .i64 0, .int .i64 0, .int .i64 0, .int .i64 0, .int .i64 0, .int .i64 0, .int .i64 0, .int .i64 0, .int .i64 0, .int .i64 0] 74 (0, 0)) (bk_ BK248) NB248_0.out (by simp)); replace HK := aa_ (KeepBut.trans (by exact kp_) hk (.inl rfl)); replace HB := aa_ (hb); replace HI0 := aa_ (hi); (try clear hb hk hi)) | ((with_reducible refine gC_ 25 rfl ?_); refine goesC_ (some 9) Try.func25 #[.pointer (some ⟨g, 0, none⟩), .int .i64 60] ?_; (with_reducible refine (spec_l01Below.calls g s0_0 t250 t251 60 t252 t253 t254 w0 _ ?side1 ?side2 A3.out).mono ?_); (case side1 => exact IsS71.nw_); (case side2 => exact IsS71.bw_); rintro e w8 ⟨rfl, hi, hb, hk⟩; refine ⟨_, rfl, ?_⟩; replace BK248 := aa_ (KeepBut.blk hk (g' := gb248) (o := .cells #[.int .i64 0, .int .i64 0, .int .i64 0, .int .i64 0, .int .i64 0, .int .i64 0, .int .i64 0, .int .i64 0, .int .i64 0, .int .i64 0] 74 (0, 0)) (bk_ BK248) NB248_0.out (by simp)); replace HK := aa_ (KeepBut.trans (by exact kp_) hk (.inl rfl)); replace HB := aa_ (hb); replace HI0 := aa_ (hi); (try clear hb hk hi)) | ((with_reducible refine gC_ 58 rfl ?_); refine goesC_ (some 11) Try.func58 #[.pointer (some ⟨g, 0, none⟩)] ?_; (with_reducible refine (spec_l05Cred.calls g s0_0 t253 t254 t255 t256 t257 t258 t259 t260 t261 t262 t263 t264 t265 t266 w0 _ ?side1 ?side2 A4.out).mono ?_); (case side1 => exact IsS71.nw_); (case side2 => exact IsS71.bw_); rintro e w9 ⟨rfl, hi, hb, hk⟩; refine ⟨_, rfl, ?_⟩; replace BK248 := aa_ (KeepBut.blk hk (g' := gb248) (o := .cells #[.int .i64 0, .int .i64 0, .int .i64 0, .int .i64 0, .int .i64 0, .int .i64 0, .int .i64 0, .int .i64 0, .int .i64 0, .int .i64 0] 74 (0, 0)) (bk_ BK248) NB248_0.out (by simp)); replace HK := aa_ (KeepBut.trans (by exact kp_) hk (.inl rfl)); replace HB := aa_ (hb); replace HI0 := aa_ (hi); (try clear hb hk hi)) | ((with_reducible refine gD_ 5 rfl ?_); refine bx_ (N := 5) (cs := #[.int .i64 0, .int .i64 0, .int .i64 0, .int .i64 0, .int .i64 0, .int .i64 0, .int .i64 0, .int .i64 0, .int .i64 0, .int .i64 0]) (t := 74) ?_; intro gb267 hg w10 hbox hb; replace HB := aa_ (below_step (by exact IsS71.bw_) hb); have BK267 := aa_ (hbox); have GW267 := aa_ ((by rw [hg]; exact (keep_size (w := w) (g := g) (row := none) (by exact kp_)) : w.heap.size ≤ gb267)); have GE267 := aa_ ((Nat.le_trans HW0.out (by rw [hg]; exact (keep_size (w := w) (g := g) (row := none) (by exact kp_)) : w.heap.size ≤ gb267) : w0.heap.size ≤ gb267)); replace HK := aa_ (KeepBut.trans (by exact kp_) (KeepBut.of_below hb g none) (.inl rfl)); have NB248_267 := nl_ hg BK248; have NB267_248 := nr_ hg BK248; replace BK248 := bkb_ BK248 hb; have NB0_267 := aa_ ((by rw [hg]; exact Nat.ne_of_lt (IsS71.lt (show IsS71 w0 _ g s0_0 t265 t266 from by exact IsS71.nw_)) : g ≠ gb267)); have NB267_0 := aa_ ((by rw [hg]; exact Nat.ne_of_gt (IsS71.lt (show IsS71 w0 _ g s0_0 t265 t266 from by exact IsS71.nw_)) : gb267 ≠ g)); replace HI0 := aa_ (IsS71.below (by exact IsS71.nw_) hb); clear hb hbox hg; have hnb11 := NB267_248.out; have hnc11 := NB248_267.out; have hnb12 := NB267_0.out; have hnc12 := NB0_267.out; obtain ⟨hcz13, hfz13⟩ := bcf_ BK267))
 have n0_ : Aside0 (((((((((((w10.setCell ⟨gb267, 0, none⟩ (.int .i64 t255)).setCell ⟨gb267, 1, none⟩ (.int .i64 t256)).setCell ⟨gb267, 2, none⟩ (.int .i64 t257)).setCell ⟨gb267, 3, none⟩ (.int .i64 t258)).setCell ⟨gb267, 4, none⟩ (.int .i64 t259)).setCell ⟨gb267, 5, none⟩ (.int .i64 t260)).setCell ⟨gb267, 6, none⟩ (.int .i64 t261)).setCell ⟨gb267, 7, none⟩ (.int .i64 t262)).setCell ⟨gb267, 8, none⟩ (.int .i64 t263)).setCell ⟨gb267, 9, none⟩ (.int .i64 t264)).heap[gb248]? = some (.cells #[.int .i64 0, .int .i64 0, .int .i64 0, .int .i64 0, .int .i64 0, .int .i64 0, .int .i64 0, .int .i64 0, .int .i64 0, .int .i64 0] 74 (0, 0))) := ⟨bk_ BK248⟩
 have n1_ : Aside0 (((((((((((w10.setCell ⟨gb267, 0, none⟩ (.int .i64 t255)).setCell ⟨gb267, 1, none⟩ (.int .i64 t256)).setCell ⟨gb267, 2, none⟩ (.int .i64 t257)).setCell ⟨gb267, 3, none⟩ (.int .i64 t258)).setCell ⟨gb267, 4, none⟩ (.int .i64 t259)).setCell ⟨gb267, 5, none⟩ (.int .i64 t260)).setCell ⟨gb267, 6, none⟩ (.int .i64 t261)).setCell ⟨gb267, 7, none⟩ (.int .i64 t262)).setCell ⟨gb267, 8, none⟩ (.int .i64 t263)).setCell ⟨gb267, 9, none⟩ (.int .i64 t264)).heap[gb267]? = some (.cells #[.int .i64 t255, .int .i64 t256, .int .i64 t257, .int .i64 t258, .int .i64 t259, .int .i64 t260, .int .i64 t261, .int .i64 t262, .int .i64 t263, .int .i64 t264] 74 (0, 0))) := ⟨bk_ BK267⟩
 have n2_ : Aside0 (IsS71 w0 ((((((((((w10.setCell ⟨gb267, 0, none⟩ (.int .i64 t255)).setCell ⟨gb267, 1, none⟩ (.int .i64 t256)).setCell ⟨gb267, 2, none⟩ (.int .i64 t257)).setCell ⟨gb267, 3, none⟩ (.int .i64 t258)).setCell ⟨gb267, 4, none⟩ (.int .i64 t259)).setCell ⟨gb267, 5, none⟩ (.int .i64 t260)).setCell ⟨gb267, 6, none⟩ (.int .i64 t261)).setCell ⟨gb267, 7, none⟩ (.int .i64 t262)).setCell ⟨gb267, 8, none⟩ (.int .i64 t263)).setCell ⟨gb267, 9, none⟩ (.int .i64 t264)) g s0_0 t265 t266) := ⟨by exact IsS71.nw_⟩
 have n3_ : Aside0 (KeepBut w ((((((((((w10.setCell ⟨gb267, 0, none⟩ (.int .i64 t255)).setCell ⟨gb267, 1, none⟩ (.int .i64 t256)).setCell ⟨gb267, 2, none⟩ (.int .i64 t257)).setCell ⟨gb267, 3, none⟩ (.int .i64 t258)).setCell ⟨gb267, 4, none⟩ (.int .i64 t259)).setCell ⟨gb267, 5, none⟩ (.int .i64 t260)).setCell ⟨gb267, 6, none⟩ (.int .i64 t261)).setCell ⟨gb267, 7, none⟩ (.int .i64 t262)).setCell ⟨gb267, 8, none⟩ (.int .i64 t263)).setCell ⟨gb267, 9, none⟩ (.int .i64 t264)) g none) := ⟨by exact kp_⟩
 have n4_ : Aside0 (Below w0.heap.size w0 ((((((((((w10.setCell ⟨gb267, 0, none⟩ (.int .i64 t255)).setCell ⟨gb267, 1, none⟩ (.int .i64 t256)).setCell ⟨gb267, 2, none⟩ (.int .i64 t257)).setCell ⟨gb267, 3, none⟩ (.int .i64 t258)).setCell ⟨gb267, 4, none⟩ (.int .i64 t259)).setCell ⟨gb267, 5, none⟩ (.int .i64 t260)).setCell ⟨gb267, 6, none⟩ (.int .i64 t261)).setCell ⟨gb267, 7, none⟩ (.int .i64 t262)).setCell ⟨gb267, 8, none⟩ (.int .i64 t263)).setCell ⟨gb267, 9, none⟩ (.int .i64 t264))) := ⟨by exact IsS71.bw_⟩
 (try clear BK248)
 (try clear BK267)
 (try clear HI0)
 (try clear HK)
 (try clear HB)
 generalize ((((((((((w10.setCell ⟨gb267, 0, none⟩ (.int .i64 t255)).setCell ⟨gb267, 1, none⟩ (.int .i64 t256)).setCell ⟨gb267, 2, none⟩ (.int .i64 t257)).setCell ⟨gb267, 3, none⟩ (.int .i64 t258)).setCell ⟨gb267, 4, none⟩ (.int .i64 t259)).setCell ⟨gb267, 5, none⟩ (.int .i64 t260)).setCell ⟨gb267, 6, none⟩ (.int .i64 t261)).setCell ⟨gb267, 7, none⟩ (.int .i64 t262)).setCell ⟨gb267, 8, none⟩ (.int .i64 t263)).setCell ⟨gb267, 9, none⟩ (.int .i64 t264)) = w14 at n0_ n1_ n2_ n3_ n4_ ⊢
 have BK248 := n0_
 have BK267 := n1_
 have HI0 := n2_
 have HK := n3_
 have HB := n4_
 clear n0_ n1_ n2_ n3_ n4_
 (try simp only [Act.put, List.setIfInBounds_toArray, List.set_cons_zero, List.set_cons_succ])
 have H := HC5.out
 clear HC5
 by_cases c15 : t249 = 0
 ·rw [if_pos c15] at H
  have c15b0 : (t249 == 0) = true := beq_iff_eq.mpr c15
  have c15b1 : (t249 != 0) = false := bne_eq_false_iff_eq.mpr c15
  clear c15
  (first | rw [c15b0] | (simp only [i64_w, i32_w]; rw [c15b0]) | skip)
  simp only [Option.some.injEq, Prod.mk.injEq] at H
  obtain ⟨rfl, rfl, rfl, rfl, rfl, rfl, rfl, rfl, rfl, rfl, rfl, rfl⟩ := H
  have hnb16 := NB267_248.out
  have hnc16 := NB248_267.out
  have hnb17 := NB267_0.out
  have hnc17 := NB0_267.out
  have hcz18 := blk_cell BK267.out
  have hfz18 := blk_frozen BK267.out
  have hnb19 := NB248_0.out
  have hnc19 := NB0_248.out
  have hcz20 := blk_cell BK248.out
  have hfz20 := blk_frozen BK248.out
  go_wp2
  refine bodyPost_ret (results_cell_row rfl _ _ gb248 74 #[.int .i64 (Int.tmod t252 6), .int .i64 t256, .int .i64 t257, .int .i64 t258, .int .i64 t259, .int .i64 t260, .int .i64 t261, .int .i64 t262, .int .i64 t263, .int .i64 t264] (0, 0) _ rfl (bk_ BK248) Try.underlying74 rfl (by kernel_rfl)) rfl ?_
  exact ⟨eq_, by exact IsS71.nw_, by exact IsS71.bw_, by exact kp_⟩
 ·rw [if_neg c15] at H
  have c15b0 : (t249 == 0) = false := beq_eq_false_iff_ne.mpr c15
  have c15b1 : (t249 != 0) = true := bne_iff_ne.mpr c15
  (first | rw [c15b0] | (simp only [i64_w, i32_w]; rw [c15b0]) | skip)
  by_cases c21 : t249 = 1
  ·rw [if_pos c21] at H
   have c21b0 : (t249 == 1) = true := beq_iff_eq.mpr c21
   have c21b1 : (t249 != 1) = false := bne_eq_false_iff_eq.mpr c21
   clear c21
   simp only [Option.some.injEq, Prod.mk.injEq] at H
   obtain ⟨rfl, rfl, rfl, rfl, rfl, rfl, rfl, rfl, rfl, rfl, rfl, rfl⟩ := H
   have hnb22 := NB267_248.out
   have hnc22 := NB248_267.out
   have hnb23 := NB267_0.out
   have hnc23 := NB0_267.out
   have hcz24 := blk_cell BK267.out
   have hfz24 := blk_frozen BK267.out
   have hnb25 := NB248_0.out
   have hnc25 := NB0_248.out
   have hcz26 := blk_cell BK248.out
   have hfz26 := blk_frozen BK248.out
   go_wp2
   refine bodyPost_ret (results_cell_row rfl _ _ gb248 74 #[.int .i64 t255, .int .i64 t256, .int .i64 t257, .int .i64 (wrap64 ((Int.tmod t252 9) - 1)), .int .i64 t259, .int .i64 t260, .int .i64 t261, .int .i64 t262, .int .i64 t263, .int .i64 t264] (0, 0) _ rfl (bk_ BK248) Try.underlying74 rfl (by kernel_rfl)) rfl ?_
   exact ⟨eq_, by exact IsS71.nw_, by exact IsS71.bw_, by exact kp_⟩
  ·rw [if_neg c21] at H
   have c21b0 : (t249 == 1) = false := beq_eq_false_iff_ne.mpr c21
   have c21b1 : (t249 != 1) = true := bne_iff_ne.mpr c21
   by_cases c27 : t249 = 2
   ·rw [if_pos c27] at H
    have c27b0 : (t249 == 2) = true := beq_iff_eq.mpr c27
    have c27b1 : (t249 != 2) = false := bne_eq_false_iff_eq.mpr c27
    clear c27
    simp only [Option.some.injEq, Prod.mk.injEq] at H
    obtain ⟨rfl, rfl, rfl, rfl, rfl, rfl, rfl, rfl, rfl, rfl, rfl, rfl⟩ := H
    have hnb28 := NB267_248.out
    have hnc28 := NB248_267.out
    have hnb29 := NB267_0.out
    have hnc29 := NB0_267.out
    have hcz30 := blk_cell BK267.out
    have hfz30 := blk_frozen BK267.out
    have hnb31 := NB248_0.out
    have hnc31 := NB0_248.out
    have hcz32 := blk_cell BK248.out
    have hfz32 := blk_frozen BK248.out
    go_wp2
    refine bodyPost_ret (results_cell_row rfl _ _ gb248 74 #[.int .i64 t255, .int .i64 t256, .int .i64 t257, .int .i64 t258, .int .i64 (Int.tmod t252 8), .int .i64 (Int.tmod t252 5), .int .i64 t261, .int .i64 t262, .int .i64 t263, .int .i64 t264] (0, 0) _ rfl (bk_ BK248) Try.underlying74 rfl (by kernel_rfl)) rfl ?_
    exact ⟨eq_, by exact IsS71.nw_, by exact IsS71.bw_, by exact kp_⟩
   ·rw [if_neg c27] at H
    have c27b0 : (t249 == 2) = false := beq_eq_false_iff_ne.mpr c27
    have c27b1 : (t249 != 2) = true := bne_iff_ne.mpr c27
    by_cases c33 : t249 = 3
    ·rw [if_pos c33] at H
     have c33b0 : (t249 == 3) = true := beq_iff_eq.mpr c33
     have c33b1 : (t249 != 3) = false := bne_eq_false_iff_eq.mpr c33
     clear c33
     simp only [Option.some.injEq, Prod.mk.injEq] at H
     obtain ⟨rfl, rfl, rfl, rfl, rfl, rfl, rfl, rfl, rfl, rfl, rfl, rfl⟩ := H
     have hnb34 := NB267_248.out
     have hnc34 := NB248_267.out
     have hnb35 := NB267_0.out
     have hnc35 := NB0_267.out
     have hcz36 := blk_cell BK267.out
     have hfz36 := blk_frozen BK267.out
     have hnb37 := NB248_0.out
     have hnc37 := NB0_248.out
     have hcz38 := blk_cell BK248.out
     have hfz38 := blk_frozen BK248.out
     go_wp2
     refine bodyPost_ret (results_cell_row rfl _ _ gb248 74 #[.int .i64 t255, .int .i64 t256, .int .i64 t257, .int .i64 t258, .int .i64 t259, .int .i64 t260, .int .i64 (Int.tmod t252 3), .int .i64 t262, .int .i64 t263, .int .i64 t264] (0, 0) _ rfl (bk_ BK248) Try.underlying74 rfl (by kernel_rfl)) rfl ?_
     exact ⟨eq_, by exact IsS71.nw_, by exact IsS71.bw_, by exact kp_⟩
    ·rw [if_neg c33] at H
     have c33b0 : (t249 == 3) = false := beq_eq_false_iff_ne.mpr c33
     have c33b1 : (t249 != 3) = true := bne_iff_ne.mpr c33
     by_cases c39 : t249 = 4
     ·rw [if_pos c39] at H
      have c39b0 : (t249 == 4) = true := beq_iff_eq.mpr c39
      have c39b1 : (t249 != 4) = false := bne_eq_false_iff_eq.mpr c39
      clear c39
      obtain ⟨y268, hy268⟩ : ∃ y_ : List Int, y_ = (([0, 10000, 1] : List Int)) := ⟨_, rfl⟩
      replace H : (if 0 ≤ (Int.tmod t252 3) then (if (Int.tmod t252 3) < (y268.length : Int) then (some (t255, t256, t257, t258, t259, t260, t261, t262, rd y268 (Int.tmod t252 3), t264, t265, t266)) else (none)) else (none)) = some (r1, r2, r3, r4, r5, r6, r7, r8, r9, r10, r11, r12) := rh_ hy268 H
      have Ny268 := aa_ hy268
      clear hy268
      obtain ⟨ji40, hji40⟩ : ∃ j_ : Int, (Int.tmod t252 3) = j_ := ⟨_, rfl⟩
      replace H : (if 0 ≤ (ji40) then (if (ji40) < (y268.length : Int) then (some (t255, t256, t257, t258, t259, t260, t261, t262, rd y268 (ji40), t264, t265, t266)) else (none)) else (none)) = some (r1, r2, r3, r4, r5, r6, r7, r8, r9, r10, r11, r12) := by first | (rw [hji40] at H; exact H) | (simp only [hji40] at H ⊢; exact H)
      obtain ⟨c41b0, H⟩ := ifd_ H
      obtain ⟨c42b0, H⟩ := ifd_ H
      simp only [Option.some.injEq, Prod.mk.injEq] at H
      obtain ⟨rfl, rfl, rfl, rfl, rfl, rfl, rfl, rfl, rfl, rfl, rfl, rfl⟩ := H
      go_wp2_with (first | ((with_reducible refine gD_ 40 rfl ?_); refine Kd.R_lit (Kd.int .i64) _ 3 ?hg (N := 40) ?hd (xs := ([0, 10000, 1] : List Int)) (inner := [.int .i64 0, .int .i64 10000, .int .i64 1]) (ok := fun _ => True) (okp := fun _ => True) ?hr ?hp (fun _ hk => hk) trivial (Below.refl _ _) (Nat.le_refl _) (by simp) ?_; (case hd => rfl); (case hg => rfl); (case hr => first | (go_simp; done) | (go_simp; rfl)); (case hp => exact (Reps.one (show Kd.M (Kd.int .i64) _ _ _ 0 [.int .i64 0] from rfl) (Reps.one (show Kd.M (Kd.int .i64) _ _ _ 10000 [.int .i64 10000] from rfl) (Reps.one (show Kd.M (Kd.int .i64) _ _ _ 1 [.int .i64 1] from rfl) (Reps.none _ _))))); intro v269 w43 ho44 hb hg_ hnew_; clear hg_ hnew_; (first | rw [← Ny268.out] at ho44 | (simp only [Int.reduceToNat] at ho44; rw [← Ny268.out] at ho44)); have HO270 := aa_ (Kd.R_lower ho44 (keep_size (w := w) (g := g) (row := none) (by exact kp_))); replace BK248 := bkb_ BK248 hb; replace BK267 := bkb_ BK267 hb; replace HK := aa_ (KeepBut.trans (by exact kp_) (KeepBut.of_below hb g none) (.inl rfl)); replace HB := aa_ (below_step (by exact IsS71.bw_) hb); replace HI0 := aa_ (IsS71.below (by exact IsS71.nw_) hb); clear hb ho44; obtain ⟨Ao45, co45, eo45⟩ := Kd.R_slice HO270.out; subst eo45; have p271 : 0 ≤ ((ji40) : Int) := od_; have q271 : (ji40) < (y268.length : Int) := od_; obtain ⟨ad271, e271, hx271_0⟩ := Kd.at_int (Kd.R_reads' HO270.out).2.2 (ji40) p271 q271; cases e271; replace p271 := eq_true p271; replace q271 := eq_true q271; have hnb46 := NB267_248.out; have hnc46 := NB248_267.out; have hnb47 := NB267_0.out; have hnc47 := NB0_267.out; obtain ⟨hcz48, hfz48⟩ := bcf_ BK267; have hnb49 := NB248_0.out; have hnc49 := NB0_248.out; obtain ⟨hcz50, hfz50⟩ := bcf_ BK248))
      refine bodyPost_ret (results_cell_row rfl _ _ gb248 74 #[.int .i64 t255, .int .i64 t256, .int .i64 t257, .int .i64 t258, .int .i64 t259, .int .i64 t260, .int .i64 t261, .int .i64 t262, .int .i64 (rd y268 (ji40)), .int .i64 t264] (0, 0) _ rfl (bk_ BK248) Try.underlying74 rfl (by kernel_rfl)) rfl ?_
      exact ⟨by first | rfl | (simp [errW_none, errW_some] <;> rfl) | (simp only [← hji40]; first | rfl | (simp [errW_none, errW_some] <;> rfl)) | (simp [*, errW_none, errW_some] <;> rfl), by exact IsS71.nw_, by exact IsS71.bw_, by exact kp_⟩
     ·rw [if_neg c39] at H
      have c39b0 : (t249 == 4) = false := beq_eq_false_iff_ne.mpr c39
      have c39b1 : (t249 != 4) = true := bne_iff_ne.mpr c39
      simp only [Option.some.injEq, Prod.mk.injEq] at H
      obtain ⟨rfl, rfl, rfl, rfl, rfl, rfl, rfl, rfl, rfl, rfl, rfl, rfl⟩ := H
      have hnb51 := NB267_248.out
      have hnc51 := NB248_267.out
      have hnb52 := NB267_0.out
      have hnc52 := NB0_267.out
      have hcz53 := blk_cell BK267.out
      have hfz53 := blk_frozen BK267.out
      have hnb54 := NB248_0.out
      have hnc54 := NB0_248.out
      have hcz55 := blk_cell BK248.out
      have hfz55 := blk_frozen BK248.out
      go_wp2
      refine bodyPost_ret (results_cell_row rfl _ _ gb248 74 #[.int .i64 t255, .int .i64 t256, .int .i64 t257, .int .i64 t258, .int .i64 t259, .int .i64 t260, .int .i64 t261, .int .i64 t262, .int .i64 t263, .int .i64 t264] (0, 0) _ rfl (bk_ BK248) Try.underlying74 rfl (by kernel_rfl)) rfl ?_
      exact ⟨eq_, by exact IsS71.nw_, by exact IsS71.bw_, by exact kp_⟩
def spec_l06Any.f (k : Nat) (s0_0 : List Int) (s0_1 : Int) (s0_2 : Int) : Option ((List (S74)) × Int × Int) := (spec_l06Creds.f k s0_0 s0_1 s0_2).bind fun bt272 => ((spec_l01Once.f s0_0 bt272.2.1 bt272.2.2 4).bind fun bt277 => (if bt277.1 = true then ((spec_l05Any.f s0_0 bt277.2.1 bt277.2.2).bind fun bt280 => (if bt272.1.length < 1759218604441 then (some ((bt272.1 ++ [(⟨bt280.1, (⟨bt280.2.1, bt280.2.2.1⟩ : S55), bt280.2.2.2.1, (⟨bt280.2.2.2.2.1, bt280.2.2.2.2.2.1⟩ : S55), (⟨bt280.2.2.2.2.2.2.1, bt280.2.2.2.2.2.2.2.1⟩ : S55), bt280.2.2.2.2.2.2.2.2.1, bt280.2.2.2.2.2.2.2.2.2.1⟩ : S74)]), bt280.2.2.2.2.2.2.2.2.2.2.1, bt280.2.2.2.2.2.2.2.2.2.2.2)) else (none))) else (some (bt272.1, bt277.2.1, bt277.2.2))))
set_option maxHeartbeats 8000000 in
set_option maxRecDepth 100000 in
theorem spec_l06Any.calls (k : Nat) (g : Nat) (s0_0 : List Int) (s0_1 : Int) (s0_2 : Int) (r1 : List (S74)) (r2 : Int) (r3 : Int) (w0 w : World) (hI : IsS71 w0 w g s0_0 s0_1 s0_2) (hB : Below w0.heap.size w0 w) (h : spec_l06Any.f k s0_0 s0_1 s0_2 = some (r1, r2, r3)) :
  Calls Try.prog 27 #[.pointer (some ⟨g, 0, none⟩)] w fun e w' => ∃ v0_ : Value, e = .returned (v0_) ∧ Kd.R k74 74 w' w.heap.size (fun _ => True) v0_ r1 ∧ IsS71 w0 w' g s0_0 r2 r3 ∧ Below w0.heap.size w0 w' ∧ KeepBut w w' g none := by
 have HI0 := aa_ hI
 have HK := aa_ (KeepBut.refl w g none)
 have HL := aa_ hB.size
 clear hI
 have HW0 := aa_ hB.size
 have HB := aa_ hB
 clear hB
 have H : ((spec_l06Creds.f k s0_0 s0_1 s0_2).bind fun bt272 => ((spec_l01Once.f s0_0 bt272.2.1 bt272.2.2 4).bind fun bt277 => (if bt277.1 = true then ((spec_l05Any.f s0_0 bt277.2.1 bt277.2.2).bind fun bt280 => (if bt272.1.length < 1759218604441 then (some ((bt272.1 ++ [(⟨bt280.1, (⟨bt280.2.1, bt280.2.2.1⟩ : S55), bt280.2.2.2.1, (⟨bt280.2.2.2.2.1, bt280.2.2.2.2.2.1⟩ : S55), (⟨bt280.2.2.2.2.2.2.1, bt280.2.2.2.2.2.2.2.1⟩ : S55), bt280.2.2.2.2.2.2.2.2.1, bt280.2.2.2.2.2.2.2.2.2.1⟩ : S74)]), bt280.2.2.2.2.2.2.2.2.2.2.1, bt280.2.2.2.2.2.2.2.2.2.2.2)) else (none))) else (some (bt272.1, bt277.2.1, bt277.2.2))))) = some (r1, r2, r3) := h
 clear h
 obtain ⟨⟨t272, t275, t276⟩, A2, H⟩ := bindE_ H
 replace H : ((spec_l01Once.f s0_0 t275 t276 4).bind fun bt277 => (if bt277.1 = true then ((spec_l05Any.f s0_0 bt277.2.1 bt277.2.2).bind fun bt280 => (if t272.length < 1759218604441 then (some ((t272 ++ [(⟨bt280.1, (⟨bt280.2.1, bt280.2.2.1⟩ : S55), bt280.2.2.2.1, (⟨bt280.2.2.2.2.1, bt280.2.2.2.2.2.1⟩ : S55), (⟨bt280.2.2.2.2.2.2.1, bt280.2.2.2.2.2.2.2.1⟩ : S55), bt280.2.2.2.2.2.2.2.2.1, bt280.2.2.2.2.2.2.2.2.2.1⟩ : S74)]), bt280.2.2.2.2.2.2.2.2.2.2.1, bt280.2.2.2.2.2.2.2.2.2.2.2)) else (none))) else (some (t272, bt277.2.1, bt277.2.2)))) = some (r1, r2, r3) := H
 obtain ⟨⟨t277, t278, t279⟩, A3, H⟩ := bindE_ H
 replace H : (if t277 = true then ((spec_l05Any.f s0_0 t278 t279).bind fun bt280 => (if t272.length < 1759218604441 then (some ((t272 ++ [(⟨bt280.1, (⟨bt280.2.1, bt280.2.2.1⟩ : S55), bt280.2.2.2.1, (⟨bt280.2.2.2.2.1, bt280.2.2.2.2.2.1⟩ : S55), (⟨bt280.2.2.2.2.2.2.1, bt280.2.2.2.2.2.2.2.1⟩ : S55), bt280.2.2.2.2.2.2.2.2.1, bt280.2.2.2.2.2.2.2.2.2.1⟩ : S74)]), bt280.2.2.2.2.2.2.2.2.2.2.1, bt280.2.2.2.2.2.2.2.2.2.2.2)) else (none))) else (some (t272, t278, t279))) = some (r1, r2, r3) := H
 have HC4 := aa_ H
 clear H
 go_enter Try.func27, Try.ntmps27
 go_upto_if 7 with (first | ((with_reducible refine gC_ 49 rfl ?_); refine goesC_ (some 5) Try.func49 #[.pointer (some ⟨g, 0, none⟩)] ?_; (with_reducible refine (spec_l06Creds.calls k g s0_0 s0_1 s0_2 t272 t275 t276 w0 _ ?side1 ?side2 A2.out).mono ?_); (case side1 => exact IsS71.nw_); (case side2 => exact IsS71.bw_); rintro e w5 ⟨v273, rfl, ho0, hi, hb, hk⟩; refine ⟨_, rfl, ?_⟩; have HO274 := aa_ (Kd.R_lower ho0 (keep_size (w := w) (g := g) (row := none) (by exact kp_))); replace HK := aa_ (KeepBut.trans (by exact kp_) hk (.inl rfl)); replace HB := aa_ (hb); replace HI0 := aa_ (hi); (try clear hb hk hi ho0)) | ((with_reducible refine gC_ 28 rfl ?_); refine goesC_ (some 7) Try.func28 #[.pointer (some ⟨g, 0, none⟩), .int .i64 4] ?_; (with_reducible refine (spec_l01Once.calls g s0_0 t275 t276 4 t277 t278 t279 w0 _ ?side1 ?side2 A3.out).mono ?_); (case side1 => exact IsS71.nw_); (case side2 => exact IsS71.bw_); rintro e w6 ⟨rfl, hi, hb, hk⟩; refine ⟨_, rfl, ?_⟩; replace HO274 := aa_ (Kd.R_mono (Kd.R_keep (IsS71.apart (show IsS71 w0 _ g s0_0 t275 t276 from by exact IsS71.nw_) (rr_ HO274) (by decide)) hk (fun _ h => h.2)) (fun _ h => h.1)); replace HK := aa_ (KeepBut.trans (by exact kp_) hk (.inl rfl)); replace HB := aa_ (hb); replace HI0 := aa_ (hi); (try clear hb hk hi)))
 (try simp only [Act.put, List.setIfInBounds_toArray, List.set_cons_zero, List.set_cons_succ])
 have H := HC4.out
 clear HC4
 by_cases c7 : t277 = true
 ·subst c7
  replace H := ite_t_ H
  obtain ⟨⟨t280, t281, t282, t283, t284, t285, t286, t287, t288, t289, t290, t291⟩, A8, H⟩ := bindE_ H
  replace H : (if t272.length < 1759218604441 then (some ((t272 ++ [(⟨t280, (⟨t281, t282⟩ : S55), t283, (⟨t284, t285⟩ : S55), (⟨t286, t287⟩ : S55), t288, t289⟩ : S74)]), t290, t291)) else (none)) = some (r1, r2, r3) := H
  obtain ⟨c9, H⟩ := ifn_ H
  have LMc9 := aa_ c9
  clear c9
  obtain ⟨y292, hy292⟩ : ∃ y_ : List (S74), y_ = (t272 ++ [(⟨t280, (⟨t281, t282⟩ : S55), t283, (⟨t284, t285⟩ : S55), (⟨t286, t287⟩ : S55), t288, t289⟩ : S74)]) := ⟨_, rfl⟩
  replace H : (some (y292, t290, t291)) = some (r1, r2, r3) := rh_ hy292 H
  have Ny292 := aa_ hy292
  clear hy292
  simp only [Option.some.injEq, Prod.mk.injEq] at H
  obtain ⟨rfl, rfl, rfl⟩ := H
  go_wp2_with (first | ((with_reducible refine gC_ 50 rfl ?_); refine goesC_ (some 10) Try.func50 #[.pointer (some ⟨g, 0, none⟩)] ?_; (with_reducible refine (spec_l05Any.calls g s0_0 t278 t279 t280 t281 t282 t283 t284 t285 t286 t287 t288 t289 t290 t291 w0 _ ?side1 ?side2 A8.out).mono ?_); (case side1 => exact IsS71.nw_); (case side2 => exact IsS71.bw_); rintro e w10 ⟨rfl, hi, hb, hk⟩; refine ⟨_, rfl, ?_⟩; replace HO274 := aa_ (Kd.R_mono (Kd.R_keep (IsS71.apart (show IsS71 w0 _ g s0_0 t278 t279 from by exact IsS71.nw_) (rr_ HO274) (by decide)) hk (fun _ h => h.2)) (fun _ h => h.1)); replace HK := aa_ (KeepBut.trans (by exact kp_) hk (.inl rfl)); replace HB := aa_ (hb); replace HI0 := aa_ (hi); (try clear hb hk hi)) | ((with_reducible refine gate_builtin (b := .append) (xs := #[.tmp 8, .tmp 11]) rfl ?_); at_builtin; refine Kd.R_append k74 w.heap.size rfl (.tmp 8) (.tmp 11) 24 74 (.agg #[(.int .i64 0), (.int .i64 0), (.int .i64 0), (.int .i64 0), (.int .i64 0), (.int .i64 0), (.int .i64 0), (.int .i64 0), (.int .i64 0), (.int .i64 0)]) 80 rfl Try.underlying24 info74 rfl (by decide) (by omega) v273 t272 (⟨t280, (⟨t281, t282⟩ : S55), t283, (⟨t284, t285⟩ : S55), (⟨t286, t287⟩ : S55), t288, t289⟩ : S74) [.int .i64 t280, .int .i64 t281, .int .i64 t282, .int .i64 t283, .int .i64 t284, .int .i64 t285, .int .i64 t286, .int .i64 t287, .int .i64 t288, .int .i64 t289] (fun _ => True) (fun _ => False) rfl rfl ?aP (fun _ hk => hk.elim) ?aF ?aO (Below.refl _ _) ?aS ?aL ?_; (case aP => exact k74_mkM _ _ _ (⟨t280, (⟨t281, t282⟩ : S55), t283, (⟨t284, t285⟩ : S55), (⟨t286, t287⟩ : S55), t288, t289⟩ : S74)); (case aF => exact (fun _ _ => trivial)); (case aO => exact (rr_ HO274)); (case aS => exact (keep_size (w := w) (g := g) (row := none) (by exact kp_))); (case aL => have := LMc9.out; omega); intro v293 w11 ho hb hg hat; rw [← Ny292.out] at ho; replace HB := aa_ (below_weaken (by exact IsS71.bw_) HL.out hb); replace HI0 := aa_ (IsS71.grown (show IsS71 w0 _ g s0_0 t290 t291 from by exact IsS71.nw_) hg (IsS71.own_ne HI0.out HO274.out (by decide))); replace HK := aa_ (KeepBut.trans (by exact kp_) (KeepBut.of_grown hg g) (Kd.R_base2 HO274.out)); have HO294 := aa_ (ho); clear HO274; clear ho hb hg hat))
  go_ret
  exact ⟨_, eq_, by (with_reducible repeat (first | apply Kd.R_alloc | apply Kd.R_drewN | apply Kd.R_drew)); exact HO294.out, by exact IsS71.nw_, by exact IsS71.bw_, by exact kp_⟩
 ·replace c7 := Bool.eq_false_iff.mpr c7
  subst c7
  replace H := ite_f_ H
  simp only [Option.some.injEq, Prod.mk.injEq] at H
  obtain ⟨rfl, rfl, rfl⟩ := H
  go_wp2
  go_ret
  exact ⟨_, eq_, by (with_reducible repeat (first | apply Kd.R_alloc | apply Kd.R_drewN | apply Kd.R_drew)); exact HO274.out, by exact IsS71.nw_, by exact IsS71.bw_, by exact kp_⟩
def spec_DrawDecides.f (k : Nat) (l0 : List Int) : Option ((List (S74)) × (List (S57)) × Int) := (spec_l01New.f k l0).bind fun bt296 => ((spec_l01Below.f bt296.1 bt296.2.1 bt296.2.2 8).bind fun bt300 => ((spec_l21Any.f k bt296.1 bt300.2.1 bt300.2.2).bind fun bt303 => ((spec_l06Any.f k bt296.1 bt303.2.1 bt303.2.2).bind fun bt309 => (some (bt309.1, bt303.1, wrap64 (bt300.1 - 1))))))
set_option maxHeartbeats 8000000 in
set_option maxRecDepth 100000 in
theorem spec_DrawDecides.calls (k : Nat) (A0 : Option Addr) (c0 : Nat) (l0 : List Int) (r1 : List (S74)) (r2 : List (S57)) (r3 : Int) (w : World) (hr0 : Kd.C (Kd.int .u8) w A0 l0.length l0) (hc0 : l0.length ≤ c0) (h : spec_DrawDecides.f k l0 = some (r1, r2, r3)) :
  Calls Try.prog 5 #[.slice A0 l0.length c0] w fun e w' => ∃ v0_ v1_ : Value, e = .returned (.tuple #[v0_, .agg #[v1_], .int .i64 r3]) ∧ Kd.R k74 74 w' w.heap.size (fun _ => True) v0_ r1 ∧ Kd.R k57 57 w' w.heap.size (fun _ => True) v1_ r2 ∧ Below w.heap.size w w' := by
 have hu27 := Try.underlying27
 have HR0 := aa_ hr0
 have HC0 := aa_ hc0
 clear hr0 hc0
 have HB := aa_ (Below.refl w.heap.size w)
 have H : ((spec_l01New.f k l0).bind fun bt296 => ((spec_l01Below.f bt296.1 bt296.2.1 bt296.2.2 8).bind fun bt300 => ((spec_l21Any.f k bt296.1 bt300.2.1 bt300.2.2).bind fun bt303 => ((spec_l06Any.f k bt296.1 bt303.2.1 bt303.2.2).bind fun bt309 => (some (bt309.1, bt303.1, wrap64 (bt300.1 - 1))))))) = some (r1, r2, r3) := h
 clear h
 obtain ⟨⟨t296, t297, t298⟩, A2, H⟩ := bindE_ H
 (try dsimp only at H)
 obtain ⟨⟨t300, t301, t302⟩, A3, H⟩ := bindE_ H
 (try dsimp only at H)
 obtain ⟨⟨t303, t306, t307⟩, A4, H⟩ := bindE_ H
 (try dsimp only at H)
 obtain ⟨⟨t309, t312, t313⟩, A5, H⟩ := bindE_ H
 (try dsimp only at H)
 simp only [Option.some.injEq, Prod.mk.injEq] at H
 obtain ⟨rfl, rfl, rfl⟩ := H
 go_enter Try.func5, Try.ntmps5
 try go_wp2_with (first | ((with_reducible refine gD_ 3 rfl ?_); refine bx_ (N := 3) (cs := #[.slice none 0 0]) (t := 27) ?_; intro gb295 hg w6 hbox hb; have BK295 := aa_ (hbox); have GW295 := gs_ hg; have GE295 := gs_ hg; replace HB := hbs_ hb; clear hb hbox hg) | ((with_reducible refine gC_ 24 rfl ?_); refine goesC_ (some 9) Try.func24 #[.slice A0 l0.length c0] ?_; (with_reducible refine (spec_l01New.calls k _ _ l0 t296 t297 t298 w _ ?side1 ?side2 ?side3 A2.out).mono ?_); (case side1 => repeat (first | (with_reducible first | exact HB.out | apply below_alloc | apply pw_below_drewN | apply below_drew1 | refine below_set ?_ GE295.out) | exact HB.out)); (case side2 => exact HR0.out); (case side3 => exact HC0.out); rintro e w7 ⟨g299, rfl, hi, hb, hb2⟩; refine ⟨_, rfl, ?_⟩; replace HB := aa_ (hb); have HI299 := aa_ (hi); have NB299_295 := aa_ (IsS71.ne_blk hi (blk_below (g := gb295) (o := .cells #[.slice none 0 0] 27 (0, 0)) (bk_ BK295) hb2) (by decide)); have NB295_299 := aa_ (Ne.symm (IsS71.ne_blk hi (blk_below (g := gb295) (o := .cells #[.slice none 0 0] 27 (0, 0)) (bk_ BK295) hb2) (by decide))); replace BK295 := aa_ (blk_below (g := gb295) (o := .cells #[.slice none 0 0] 27 (0, 0)) (bk_ BK295) hb2); (try clear hb hb2 hi)) | ((with_reducible refine gC_ 25 rfl ?_); refine goesC_ (some 11) Try.func25 #[.pointer (some ⟨g299, 0, none⟩), .int .i64 8] ?_; (with_reducible refine (spec_l01Below.calls g299 t296 t297 t298 8 t300 t301 t302 w _ ?side1 ?side2 A3.out).mono ?_); (case side1 => exact IsS71.nw_); (case side2 => repeat (first | (with_reducible first | exact HB.out | apply below_alloc | apply pw_below_drewN | apply below_drew1 | refine below_set ?_ (IsS71.ge HI299.out) | refine below_set ?_ GE295.out) | exact HB.out)); rintro e w8 ⟨rfl, hi, hb, hk⟩; refine ⟨_, rfl, ?_⟩; replace BK295 := aa_ (KeepBut.blk hk (g' := gb295) (o := .cells #[.slice none 0 0] 27 (0, 0)) (bk_ BK295) NB295_299.out (by simp)); replace HB := aa_ (hb); replace HI299 := aa_ (hi); (try clear hb hk hi)) | ((with_reducible refine gC_ 26 rfl ?_); refine goesC_ (some 14) Try.func26 #[.pointer (some ⟨g299, 0, none⟩)] ?_; (with_reducible refine (spec_l21Any.calls k g299 t296 t301 t302 t303 t306 t307 w _ ?side1 ?side2 A4.out).mono ?_); (case side1 => exact IsS71.nw_); (case side2 => repeat (first | (with_reducible first | exact HB.out | apply below_alloc | apply pw_below_drewN | apply below_drew1 | refine below_set ?_ (IsS71.ge HI299.out) | refine below_set ?_ GE295.out) | exact HB.out)); rintro e w9 ⟨v304, rfl, ho0, hi, hb, hk⟩; refine ⟨_, rfl, ?_⟩; replace BK295 := aa_ (KeepBut.blk hk (g' := gb295) (o := .cells #[.slice none 0 0] 27 (0, 0)) (bk_ BK295) NB295_299.out (by simp)); have HO305 := aa_ (Kd.R_lower ho0 (below_size (by repeat (first | (with_reducible first | exact HB.out | apply below_alloc | apply pw_below_drewN | apply below_drew1 | refine below_set ?_ (IsS71.ge HI299.out) | refine below_set ?_ GE295.out) | exact HB.out)))); replace HB := aa_ (hb); replace HI299 := aa_ (hi); (try clear hb hk hi ho0)) | ((with_reducible refine gD_ 7 rfl ?_); refine bx_ (N := 7) (cs := #[.slice none 0 0]) (t := 27) ?_; intro gb308 hg w10 hbox hb; replace HO305 := hob_ HO305 hb; have BK308 := aa_ (hbox); have GW308 := aa_ ((by rw [hg]; exact (below_size (by repeat (first | (with_reducible first | exact HB.out | apply below_alloc | apply pw_below_drewN | apply below_drew1 | refine below_set ?_ (IsS71.ge HI299.out) | refine below_set ?_ GE295.out) | exact HB.out))) : w.heap.size ≤ gb308)); have GE308 := aa_ ((by rw [hg]; exact (below_size (by repeat (first | (with_reducible first | exact HB.out | apply below_alloc | apply pw_below_drewN | apply below_drew1 | refine below_set ?_ (IsS71.ge HI299.out) | refine below_set ?_ GE295.out) | exact HB.out))) : w.heap.size ≤ gb308)); replace HB := aa_ (below_step (by repeat (first | (with_reducible first | exact HB.out | apply below_alloc | apply pw_below_drewN | apply below_drew1 | refine below_set ?_ (IsS71.ge HI299.out) | refine below_set ?_ GE295.out) | exact HB.out)) hb); have NB295_308 := nl_ hg BK295; have NB308_295 := nr_ hg BK295; replace BK295 := bkb_ BK295 hb; have NB299_308 := aa_ ((by rw [hg]; exact Nat.ne_of_lt (IsS71.lt (show IsS71 w _ g299 t296 t306 t307 from by exact IsS71.nw_)) : g299 ≠ gb308)); have NB308_299 := aa_ ((by rw [hg]; exact Nat.ne_of_gt (IsS71.lt (show IsS71 w _ g299 t296 t306 t307 from by exact IsS71.nw_)) : gb308 ≠ g299)); replace HI299 := aa_ (IsS71.below (by exact IsS71.nw_) hb); clear hb hbox hg; obtain ⟨Ao11, co11, eo11⟩ := Kd.R_slice HO305.out; subst eo11; have hnb12 := NB308_295.out; have hnc12 := NB295_308.out; have hnb13 := NB308_299.out; have hnc13 := NB299_308.out; obtain ⟨hcz14, hfz14⟩ := bcf_ BK308))
 have n0_ : Aside0 (Kd.R k57 57 (w10.setCell ⟨gb308, 0, none⟩ (.slice Ao11 t303.length co11)) w.heap.size (fun _ => True) (.slice Ao11 t303.length co11) t303) := ⟨by (with_reducible repeat (first | apply Kd.R_alloc | apply Kd.R_drewN | apply Kd.R_drew)); exact Kd.R_mono (Kd.R_far (p := ⟨gb308, 0, none⟩) (Kd.R_types HO305.out BK308.out (by decide)) (fun _ hk => hk.2) (.slice Ao11 t303.length co11)) (fun _ hk => trivial)⟩
 have n1_ : Aside0 ((w10.setCell ⟨gb308, 0, none⟩ (.slice Ao11 t303.length co11)).heap[gb295]? = some (.cells #[.slice none 0 0] 27 (0, 0))) := ⟨bk_ BK295⟩
 have n2_ : Aside0 ((w10.setCell ⟨gb308, 0, none⟩ (.slice Ao11 t303.length co11)).heap[gb308]? = some (.cells #[.slice Ao11 t303.length co11] 27 (0, 0))) := ⟨bk_ BK308⟩
 have n3_ : Aside0 (IsS71 w (w10.setCell ⟨gb308, 0, none⟩ (.slice Ao11 t303.length co11)) g299 t296 t306 t307) := ⟨by exact IsS71.nw_⟩
 have n4_ : Aside0 (Below w.heap.size w (w10.setCell ⟨gb308, 0, none⟩ (.slice Ao11 t303.length co11))) := ⟨by repeat (first | (with_reducible first | exact HB.out | apply below_alloc | apply pw_below_drewN | apply below_drew1 | refine below_set ?_ (IsS71.ge HI299.out) | refine below_set ?_ GE295.out | refine below_set ?_ GE308.out) | exact HB.out)⟩
 (try clear HO305)
 (try clear BK295)
 (try clear BK308)
 (try clear HI299)
 (try clear HB)
 generalize (w10.setCell ⟨gb308, 0, none⟩ (.slice Ao11 t303.length co11)) = w15 at n0_ n1_ n2_ n3_ n4_ ⊢
 have HO305 := n0_
 have BK295 := n1_
 have BK308 := n2_
 have HI299 := n3_
 have HB := n4_
 clear n0_ n1_ n2_ n3_ n4_
 replace HO305 := aa_ (Kd.R_drew HO305.out)
 replace BK295 := aa_ (blk_drew BK295.out)
 replace BK308 := aa_ (blk_drew BK308.out)
 replace HI299 := aa_ (IsS71.drew HI299.out)
 replace HB := aa_ (below_drew1 HB.out)
 refine start_ (n := 7) (S := fun w' => w'.cell? ⟨gb308, 0, none⟩ = some (.slice Ao11 t303.length co11)) (ds := []) (ba_ 7 0) (by kernel_rfl) rfl rfl ((blk_cell BK308.out 0).trans rfl) (fun hHeld => ?_)
 generalize w15.drew = w16 at HO305 BK295 BK308 HI299 HB hHeld ⊢
 refine pure_ (i := 0) (N := some 15) (v := ?_) (a' := ?_) (ba_ 7 1) rfl rfl (by kernel_rfl) (fun _ _ _ h => h) (Or.inl ⟨by rfl, ?_⟩) ?_ ?_
 rotate_left
 ·intro w'
  go_simp
  with_reducible rfl
 rotate_left
 ·simp only [Act.put, List.setIfInBounds_toArray, List.set_cons_zero, List.set_cons_succ, i64_w, i32_w]
  rfl
 refine pure_ (i := 3) (N := some 18) (v := ?_) (a' := ?_) (ba_ 7 9) rfl rfl (by kernel_rfl) (fun _ _ _ h => h) (Or.inl ⟨by rfl, ?_⟩) ?_ ?_
 rotate_left
 ·intro w'
  go_simp
  with_reducible rfl
 rotate_left
 ·simp only [Act.put, List.setIfInBounds_toArray, List.set_cons_zero, List.set_cons_succ, i64_w, i32_w]
  rfl
 refine take_ (i := 2) (N := some 17) (v := ?_) (a' := ?_) (ba_ 7 13) rfl rfl (by kernel_rfl) (fun _ _ _ h => h) (Or.inl ⟨by rfl, ?_⟩) hHeld ?_ ?_
 rotate_left
 ·intro w' s0
  go_simp
  with_reducible rfl
 rotate_left
 ·simp only [Act.put, List.setIfInBounds_toArray, List.set_cons_zero, List.set_cons_succ, i64_w, i32_w]
  rfl
 refine one_ (i := 1) (N := some 16) (ba_ 7 15) rfl rfl (by kernel_rfl) (by decide) (fun K hK => ?_)
 refine goes_ Try.func27 (by kernel_rfl) rfl #[.pointer (some ⟨g299, 0, none⟩)] (by rfl) rfl rfl (by (try simp only [List.map_toArray, List.map_cons, List.map_nil]); first | done | rfl | (simp only [List.length_drop, List.length_take]; rfl)) ?_
 with_reducible refine (spec_l06Any.calls k g299 t296 t306 t307 t309 t312 t313 w _ ?side1 ?side2 A5.out).mono ?_
 (case side1 => exact IsS71.nw_)
 (case side2 => repeat (first | (with_reducible first | exact HB.out | apply below_alloc | apply pw_below_drewN | apply below_drew1 | refine below_set ?_ (IsS71.ge HI299.out) | refine below_set ?_ GE295.out | refine below_set ?_ GE308.out) | exact HB.out))
 rintro e w17 ⟨v310, rfl, ho0, hi, hb, hk⟩
 refine ⟨_, rfl, ?_⟩
 replace BK295 := aa_ (KeepBut.blk hk (g' := gb295) (o := .cells #[.slice none 0 0] 27 (0, 0)) (bk_ BK295) NB295_299.out (by simp))
 replace HO305 := aa_ (Kd.R_mono (Kd.R_keep (IsS71.apart (show IsS71 w _ g299 t296 t306 t307 from by exact IsS71.nw_) (rr_ HO305) (by decide)) hk (fun _ h => h.2)) (fun _ h => h.1))
 replace BK308 := aa_ (KeepBut.blk hk (g' := gb308) (o := .cells #[.slice Ao11 t303.length co11] 27 (0, 0)) (bk_ BK308) NB308_299.out (by simp))
 have HO311 := aa_ (Kd.R_lower ho0 (below_size (by repeat (first | (with_reducible first | exact HB.out | apply below_alloc | apply pw_below_drewN | apply below_drew1 | refine below_set ?_ (IsS71.ge HI299.out) | refine below_set ?_ GE295.out | refine below_set ?_ GE308.out) | exact HB.out))))
 replace HB := aa_ (hb)
 replace HI299 := aa_ (hi)
 (try clear hb)
 (try clear hb2)
 (try clear hk)
 (try clear hi)
 (try clear ho0)
 refine hK.out _ _ ((blk_cell BK308.out 0).trans rfl) (fun hHeld => ?_)
 clear hK K
 refine norm_ (a' := ?_) ?_ ?_
 rotate_left
 ·show Act.put _ (some 16) _ = _
  simp only [Act.put, List.setIfInBounds_toArray, List.set_cons_zero, List.set_cons_succ, i64_w, i32_w]
  rfl
 refine pure_ (i := 4) (N := some 2) (v := ?_) (a' := ?_) (ba_ 7 31) rfl rfl (by kernel_rfl) (fun _ _ _ h => h) (Or.inl ⟨by rfl, ?_⟩) ?_ ?_
 rotate_left
 ·intro w'
  go_simp
  with_reducible rfl
 rotate_left
 ·simp only [Act.put, List.setIfInBounds_toArray, List.set_cons_zero, List.set_cons_succ, i64_w, i32_w]
  rfl
 refine one_ (i := 5) (N := none) (ba_ 7 63) rfl rfl (by kernel_rfl) (by decide) (fun K hK => ?_)
 have hs18 : w17.cell? ⟨gb295, 0, none⟩ = some (.slice none 0 0) := (blk_cell BK295.out 0).trans rfl
 have hfs18 := blk_frozen BK295.out 0
 have hns18_1 := NB308_295.out
 have hms18_1 := NB295_308.out
 refine skip_ (w1 := ?_) (by rfl) rfl ?_ ?_
 rotate_left
 ·go_simp
  rfl
 refine hK.out _ _ (((cell_far (p := ⟨gb295, _, none⟩) NB308_295.out _).trans (hHeld))) (fun hHeld => ?_)
 clear hK K
 refine pure_ (i := 6) (N := some 4) (v := ?_) (a' := ?_) (ba_ 7 127) rfl rfl (by kernel_rfl) (fun _ _ _ h => h) (Or.inl ⟨by rfl, ?_⟩) ?_ ?_
 rotate_left
 ·intro w'
  go_simp
  with_reducible rfl
 rotate_left
 ·simp only [Act.put, List.setIfInBounds_toArray, List.set_cons_zero, List.set_cons_succ, i64_w, i32_w]
  rfl
 refine done_ (by kernel_rfl) ?_
 try go_wp2
 refine bodyPost_ret (results_list (rs := [.tmp 2, .cell 3 27, .tmp 4]) rfl (by simp) (.tmp (.cell gb295 27 #[.slice Ao11 t303.length co11] (0, 0) _ rfl (bk_ BK295) Try.underlying27 rfl (by kernel_rfl) (.tmp .nil)))) rfl ?_
 exact ⟨_, _, eq_, by (with_reducible repeat (first | apply Kd.R_alloc | apply Kd.R_drewN | apply Kd.R_drew)); exact Kd.R_mono (Kd.R_far (p := ⟨gb295, 0, none⟩) (Kd.R_types HO311.out BK295.out (by decide)) (fun _ hk => hk.2) (.slice Ao11 t303.length co11)) (fun _ hk => trivial), by (with_reducible repeat (first | apply Kd.R_alloc | apply Kd.R_drewN | apply Kd.R_drew)); exact Kd.R_mono (Kd.R_far (p := ⟨gb295, 0, none⟩) (Kd.R_types HO305.out BK295.out (by decide)) (fun _ hk => hk.2) (.slice Ao11 t303.length co11)) (fun _ hk => trivial), by repeat (first | (with_reducible first | exact HB.out | apply below_alloc | apply pw_below_drewN | apply below_drew1 | refine below_set ?_ (IsS71.ge HI299.out) | refine below_set ?_ GE295.out | refine below_set ?_ GE308.out) | exact HB.out)⟩
def spec_DrawPolicyRoles.f (k : Nat) (l0 : List Int) : Option ((List (S57))) := (spec_l01New.f k l0).bind fun bt315 => ((spec_l21Any.f k bt315.1 bt315.2.1 bt315.2.2).bind fun bt319 => (some bt319.1))
set_option maxHeartbeats 8000000 in
set_option maxRecDepth 100000 in
theorem spec_DrawPolicyRoles.calls (k : Nat) (A0 : Option Addr) (c0 : Nat) (l0 : List Int) (r : List (S57)) (w : World) (hr0 : Kd.C (Kd.int .u8) w A0 l0.length l0) (hc0 : l0.length ≤ c0) (h : spec_DrawPolicyRoles.f k l0 = some r) :
  Calls Try.prog 6 #[.slice A0 l0.length c0] w fun e w' => ∃ v0_ : Value, e = .returned (.agg #[v0_]) ∧ Kd.R k57 57 w' w.heap.size (fun _ => True) v0_ r ∧ Below w.heap.size w w' := by
 have hu27 := Try.underlying27
 have HR0 := aa_ hr0
 have HC0 := aa_ hc0
 clear hr0 hc0
 have HB := aa_ (Below.refl w.heap.size w)
 have H : ((spec_l01New.f k l0).bind fun bt315 => ((spec_l21Any.f k bt315.1 bt315.2.1 bt315.2.2).bind fun bt319 => (some bt319.1))) = some r := h
 clear h
 obtain ⟨⟨t315, t316, t317⟩, A2, H⟩ := bindE_ H
 (try dsimp only at H)
 obtain ⟨⟨t319, t322, t323⟩, A3, H⟩ := bindE_ H
 (try dsimp only at H)
 obtain rfl := Option.some.inj H
 go_enter Try.func6, Try.ntmps6
 go_wp2_with (first | ((with_reducible refine gD_ 2 rfl ?_); refine bx_ (N := 2) (cs := #[.slice none 0 0]) (t := 27) ?_; intro gb314 hg w4 hbox hb; have BK314 := aa_ (hbox); have GW314 := gs_ hg; have GE314 := gs_ hg; replace HB := hbs_ hb; clear hb hbox hg) | ((with_reducible refine gC_ 24 rfl ?_); refine goesC_ (some 4) Try.func24 #[.slice A0 l0.length c0] ?_; (with_reducible refine (spec_l01New.calls k _ _ l0 t315 t316 t317 w _ ?side1 ?side2 ?side3 A2.out).mono ?_); (case side1 => repeat (first | (with_reducible first | exact HB.out | apply below_alloc | apply pw_below_drewN | apply below_drew1 | refine below_set ?_ GE314.out) | exact HB.out)); (case side2 => exact HR0.out); (case side3 => exact HC0.out); rintro e w5 ⟨g318, rfl, hi, hb, hb2⟩; refine ⟨_, rfl, ?_⟩; replace HB := aa_ (hb); have HI318 := aa_ (hi); have NB318_314 := aa_ (IsS71.ne_blk hi (blk_below (g := gb314) (o := .cells #[.slice none 0 0] 27 (0, 0)) (bk_ BK314) hb2) (by decide)); have NB314_318 := aa_ (Ne.symm (IsS71.ne_blk hi (blk_below (g := gb314) (o := .cells #[.slice none 0 0] 27 (0, 0)) (bk_ BK314) hb2) (by decide))); replace BK314 := aa_ (blk_below (g := gb314) (o := .cells #[.slice none 0 0] 27 (0, 0)) (bk_ BK314) hb2); (try clear hb hb2 hi)) | ((with_reducible refine gC_ 26 rfl ?_); refine goesC_ (some 5) Try.func26 #[.pointer (some ⟨g318, 0, none⟩)] ?_; (with_reducible refine (spec_l21Any.calls k g318 t315 t316 t317 t319 t322 t323 w _ ?side1 ?side2 A3.out).mono ?_); (case side1 => exact IsS71.nw_); (case side2 => repeat (first | (with_reducible first | exact HB.out | apply below_alloc | apply pw_below_drewN | apply below_drew1 | refine below_set ?_ (IsS71.ge HI318.out) | refine below_set ?_ GE314.out) | exact HB.out)); rintro e w6 ⟨v320, rfl, ho0, hi, hb, hk⟩; refine ⟨_, rfl, ?_⟩; replace BK314 := aa_ (KeepBut.blk hk (g' := gb314) (o := .cells #[.slice none 0 0] 27 (0, 0)) (bk_ BK314) NB314_318.out (by simp)); have HO321 := aa_ (Kd.R_lower ho0 (below_size (by repeat (first | (with_reducible first | exact HB.out | apply below_alloc | apply pw_below_drewN | apply below_drew1 | refine below_set ?_ (IsS71.ge HI318.out) | refine below_set ?_ GE314.out) | exact HB.out)))); replace HB := aa_ (hb); replace HI318 := aa_ (hi); (try clear hb hk hi ho0); obtain ⟨Ao7, co7, eo7⟩ := Kd.R_slice HO321.out; subst eo7; have hnb8 := NB314_318.out; have hnc8 := NB318_314.out; obtain ⟨hcz9, hfz9⟩ := bcf_ BK314))
 refine bodyPost_ret (results_cell_row rfl _ _ gb314 27 #[.slice Ao7 t319.length co7] (0, 0) _ rfl (bk_ BK314) Try.underlying27 rfl (by kernel_rfl)) rfl ?_
 exact ⟨_, eq_, by (with_reducible repeat (first | apply Kd.R_alloc | apply Kd.R_drewN | apply Kd.R_drew)); exact Kd.R_mono (Kd.R_far (p := ⟨gb314, 0, none⟩) (Kd.R_types HO321.out BK314.out (by decide)) (fun _ hk => hk.2) (.slice Ao7 t319.length co7)) (fun _ hk => trivial), by repeat (first | (with_reducible first | exact HB.out | apply below_alloc | apply pw_below_drewN | apply below_drew1 | refine below_set ?_ (IsS71.ge HI318.out) | refine below_set ?_ GE314.out) | exact HB.out)⟩
def spec_DrawRising.f (k : Nat) (l0 : List Int) : Option ((List (S57))) := (spec_l01New.f k l0).bind fun bt325 => ((spec_l01Once.f bt325.1 bt325.2.1 bt325.2.2 2).bind fun bt329 => (if bt329.1 = true then ((spec_l21Policy.f k bt325.1 bt329.2.1 bt329.2.2 3).bind fun bt332 => (some bt332.1)) else ((spec_l21Any.f k bt325.1 bt329.2.1 bt329.2.2).bind fun bt337 => (some bt337.1))))
set_option maxHeartbeats 8000000 in
set_option maxRecDepth 100000 in
theorem spec_DrawRising.calls (k : Nat) (A0 : Option Addr) (c0 : Nat) (l0 : List Int) (r : List (S57)) (w : World) (hr0 : Kd.C (Kd.int .u8) w A0 l0.length l0) (hc0 : l0.length ≤ c0) (h : spec_DrawRising.f k l0 = some r) :
  Calls Try.prog 7 #[.slice A0 l0.length c0] w fun e w' => ∃ v0_ : Value, e = .returned (.agg #[v0_]) ∧ Kd.R k57 57 w' w.heap.size (fun _ => True) v0_ r ∧ Below w.heap.size w w' := by
 have hu27 := Try.underlying27
 have HR0 := aa_ hr0
 have HC0 := aa_ hc0
 clear hr0 hc0
 have HB := aa_ (Below.refl w.heap.size w)
 have H : ((spec_l01New.f k l0).bind fun bt325 => ((spec_l01Once.f bt325.1 bt325.2.1 bt325.2.2 2).bind fun bt329 => (if bt329.1 = true then ((spec_l21Policy.f k bt325.1 bt329.2.1 bt329.2.2 3).bind fun bt332 => (some bt332.1)) else ((spec_l21Any.f k bt325.1 bt329.2.1 bt329.2.2).bind fun bt337 => (some bt337.1))))) = some r := h
 clear h
 obtain ⟨⟨t325, t326, t327⟩, A2, H⟩ := bindE_ H
 (try dsimp only at H)
 obtain ⟨⟨t329, t330, t331⟩, A3, H⟩ := bindE_ H
 (try dsimp only at H)
 have HC4 := aa_ H
 clear H
 go_enter Try.func7, Try.ntmps7
 go_upto_if 7 with (first | ((with_reducible refine gD_ 2 rfl ?_); refine bx_ (N := 2) (cs := #[.slice none 0 0]) (t := 27) ?_; intro gb324 hg w5 hbox hb; have BK324 := aa_ (hbox); have GW324 := gs_ hg; have GE324 := gs_ hg; replace HB := hbs_ hb; clear hb hbox hg) | ((with_reducible refine gC_ 24 rfl ?_); refine goesC_ (some 5) Try.func24 #[.slice A0 l0.length c0] ?_; (with_reducible refine (spec_l01New.calls k _ _ l0 t325 t326 t327 w _ ?side1 ?side2 ?side3 A2.out).mono ?_); (case side1 => repeat (first | (with_reducible first | exact HB.out | apply below_alloc | apply pw_below_drewN | apply below_drew1 | refine below_set ?_ GE324.out) | exact HB.out)); (case side2 => exact HR0.out); (case side3 => exact HC0.out); rintro e w6 ⟨g328, rfl, hi, hb, hb2⟩; refine ⟨_, rfl, ?_⟩; replace HB := aa_ (hb); have HI328 := aa_ (hi); have NB328_324 := aa_ (IsS71.ne_blk hi (blk_below (g := gb324) (o := .cells #[.slice none 0 0] 27 (0, 0)) (bk_ BK324) hb2) (by decide)); have NB324_328 := aa_ (Ne.symm (IsS71.ne_blk hi (blk_below (g := gb324) (o := .cells #[.slice none 0 0] 27 (0, 0)) (bk_ BK324) hb2) (by decide))); replace BK324 := aa_ (blk_below (g := gb324) (o := .cells #[.slice none 0 0] 27 (0, 0)) (bk_ BK324) hb2); (try clear hb hb2 hi)) | ((with_reducible refine gC_ 28 rfl ?_); refine goesC_ (some 7) Try.func28 #[.pointer (some ⟨g328, 0, none⟩), .int .i64 2] ?_; (with_reducible refine (spec_l01Once.calls g328 t325 t326 t327 2 t329 t330 t331 w _ ?side1 ?side2 A3.out).mono ?_); (case side1 => exact IsS71.nw_); (case side2 => repeat (first | (with_reducible first | exact HB.out | apply below_alloc | apply pw_below_drewN | apply below_drew1 | refine below_set ?_ (IsS71.ge HI328.out) | refine below_set ?_ GE324.out) | exact HB.out)); rintro e w7 ⟨rfl, hi, hb, hk⟩; refine ⟨_, rfl, ?_⟩; replace BK324 := aa_ (KeepBut.blk hk (g' := gb324) (o := .cells #[.slice none 0 0] 27 (0, 0)) (bk_ BK324) NB324_328.out (by simp)); replace HB := aa_ (hb); replace HI328 := aa_ (hi); (try clear hb hk hi)))
 (try simp only [Act.put, List.setIfInBounds_toArray, List.set_cons_zero, List.set_cons_succ])
 have H := HC4.out
 clear HC4
 by_cases c8 : t329 = true
 ·subst c8
  replace H := ite_t_ H
  obtain ⟨⟨t332, t335, t336⟩, A9, H⟩ := bindE_ H
  (try dsimp only at H)
  obtain rfl := Option.some.inj H
  go_wp2_with (first | ((with_reducible refine gC_ 29 rfl ?_); refine goesC_ (some 9) Try.func29 #[.pointer (some ⟨g328, 0, none⟩), .int .i64 3] ?_; (with_reducible refine (spec_l21Policy.calls k g328 t325 t330 t331 3 t332 t335 t336 w _ ?side1 ?side2 A9.out).mono ?_); (case side1 => exact IsS71.nw_); (case side2 => repeat (first | (with_reducible first | exact HB.out | apply below_alloc | apply pw_below_drewN | apply below_drew1 | refine below_set ?_ (IsS71.ge HI328.out) | refine below_set ?_ GE324.out) | exact HB.out)); rintro e w10 ⟨v333, rfl, ho0, hi, hb, hk⟩; refine ⟨_, rfl, ?_⟩; replace BK324 := aa_ (KeepBut.blk hk (g' := gb324) (o := .cells #[.slice none 0 0] 27 (0, 0)) (bk_ BK324) NB324_328.out (by simp)); have HO334 := aa_ (Kd.R_lower ho0 (below_size (by repeat (first | (with_reducible first | exact HB.out | apply below_alloc | apply pw_below_drewN | apply below_drew1 | refine below_set ?_ (IsS71.ge HI328.out) | refine below_set ?_ GE324.out) | exact HB.out)))); replace HB := aa_ (hb); replace HI328 := aa_ (hi); (try clear hb hk hi ho0); obtain ⟨Ao11, co11, eo11⟩ := Kd.R_slice HO334.out; subst eo11; have hnb12 := NB324_328.out; have hnc12 := NB328_324.out; obtain ⟨hcz13, hfz13⟩ := bcf_ BK324))
  refine bodyPost_ret (results_cell_row rfl _ _ gb324 27 #[.slice Ao11 t332.length co11] (0, 0) _ rfl (bk_ BK324) Try.underlying27 rfl (by kernel_rfl)) rfl ?_
  exact ⟨_, eq_, by (with_reducible repeat (first | apply Kd.R_alloc | apply Kd.R_drewN | apply Kd.R_drew)); exact Kd.R_mono (Kd.R_far (p := ⟨gb324, 0, none⟩) (Kd.R_types HO334.out BK324.out (by decide)) (fun _ hk => hk.2) (.slice Ao11 t332.length co11)) (fun _ hk => trivial), by repeat (first | (with_reducible first | exact HB.out | apply below_alloc | apply pw_below_drewN | apply below_drew1 | refine below_set ?_ (IsS71.ge HI328.out) | refine below_set ?_ GE324.out) | exact HB.out)⟩
 ·replace c8 := Bool.eq_false_iff.mpr c8
  subst c8
  replace H := ite_f_ H
  obtain ⟨⟨t337, t340, t341⟩, A14, H⟩ := bindE_ H
  (try dsimp only at H)
  obtain rfl := Option.some.inj H
  go_wp2_with (first | ((with_reducible refine gC_ 26 rfl ?_); refine goesC_ (some 11) Try.func26 #[.pointer (some ⟨g328, 0, none⟩)] ?_; (with_reducible refine (spec_l21Any.calls k g328 t325 t330 t331 t337 t340 t341 w _ ?side1 ?side2 A14.out).mono ?_); (case side1 => exact IsS71.nw_); (case side2 => repeat (first | (with_reducible first | exact HB.out | apply below_alloc | apply pw_below_drewN | apply below_drew1 | refine below_set ?_ (IsS71.ge HI328.out) | refine below_set ?_ GE324.out) | exact HB.out)); rintro e w15 ⟨v338, rfl, ho0, hi, hb, hk⟩; refine ⟨_, rfl, ?_⟩; replace BK324 := aa_ (KeepBut.blk hk (g' := gb324) (o := .cells #[.slice none 0 0] 27 (0, 0)) (bk_ BK324) NB324_328.out (by simp)); have HO339 := aa_ (Kd.R_lower ho0 (below_size (by repeat (first | (with_reducible first | exact HB.out | apply below_alloc | apply pw_below_drewN | apply below_drew1 | refine below_set ?_ (IsS71.ge HI328.out) | refine below_set ?_ GE324.out) | exact HB.out)))); replace HB := aa_ (hb); replace HI328 := aa_ (hi); (try clear hb hk hi ho0); obtain ⟨Ao16, co16, eo16⟩ := Kd.R_slice HO339.out; subst eo16; have hnb17 := NB324_328.out; have hnc17 := NB328_324.out; obtain ⟨hcz18, hfz18⟩ := bcf_ BK324))
  refine bodyPost_ret (results_cell_row rfl _ _ gb324 27 #[.slice Ao16 t337.length co16] (0, 0) _ rfl (bk_ BK324) Try.underlying27 rfl (by kernel_rfl)) rfl ?_
  exact ⟨_, eq_, by (with_reducible repeat (first | apply Kd.R_alloc | apply Kd.R_drewN | apply Kd.R_drew)); exact Kd.R_mono (Kd.R_far (p := ⟨gb324, 0, none⟩) (Kd.R_types HO339.out BK324.out (by decide)) (fun _ hk => hk.2) (.slice Ao16 t337.length co16)) (fun _ hk => trivial), by repeat (first | (with_reducible first | exact HB.out | apply below_alloc | apply pw_below_drewN | apply below_drew1 | refine below_set ?_ (IsS71.ge HI328.out) | refine below_set ?_ GE324.out) | exact HB.out)⟩
def spec_DrawPolicyText.f (k : Nat) (l0 : List Int) : Option ((List (S57))) := (spec_l01New.f k l0).bind fun bt343 => ((spec_l21Any.f k bt343.1 bt343.2.1 bt343.2.2).bind fun bt347 => (some bt347.1))
set_option maxHeartbeats 8000000 in
set_option maxRecDepth 100000 in
theorem spec_DrawPolicyText.calls (k : Nat) (A0 : Option Addr) (c0 : Nat) (l0 : List Int) (r : List (S57)) (w : World) (hr0 : Kd.C (Kd.int .u8) w A0 l0.length l0) (hc0 : l0.length ≤ c0) (h : spec_DrawPolicyText.f k l0 = some r) :
  Calls Try.prog 8 #[.slice A0 l0.length c0] w fun e w' => ∃ v0_ : Value, e = .returned (.agg #[v0_]) ∧ Kd.R k57 57 w' w.heap.size (fun _ => True) v0_ r ∧ Below w.heap.size w w' := by
 have hu27 := Try.underlying27
 have HR0 := aa_ hr0
 have HC0 := aa_ hc0
 clear hr0 hc0
 have HB := aa_ (Below.refl w.heap.size w)
 have H : ((spec_l01New.f k l0).bind fun bt343 => ((spec_l21Any.f k bt343.1 bt343.2.1 bt343.2.2).bind fun bt347 => (some bt347.1))) = some r := h
 clear h
 obtain ⟨⟨t343, t344, t345⟩, A2, H⟩ := bindE_ H
 (try dsimp only at H)
 obtain ⟨⟨t347, t350, t351⟩, A3, H⟩ := bindE_ H
 (try dsimp only at H)
 obtain rfl := Option.some.inj H
 go_enter Try.func8, Try.ntmps8
 go_wp2_with (first | ((with_reducible refine gD_ 2 rfl ?_); refine bx_ (N := 2) (cs := #[.slice none 0 0]) (t := 27) ?_; intro gb342 hg w4 hbox hb; have BK342 := aa_ (hbox); have GW342 := gs_ hg; have GE342 := gs_ hg; replace HB := hbs_ hb; clear hb hbox hg) | ((with_reducible refine gC_ 24 rfl ?_); refine goesC_ (some 4) Try.func24 #[.slice A0 l0.length c0] ?_; (with_reducible refine (spec_l01New.calls k _ _ l0 t343 t344 t345 w _ ?side1 ?side2 ?side3 A2.out).mono ?_); (case side1 => repeat (first | (with_reducible first | exact HB.out | apply below_alloc | apply pw_below_drewN | apply below_drew1 | refine below_set ?_ GE342.out) | exact HB.out)); (case side2 => exact HR0.out); (case side3 => exact HC0.out); rintro e w5 ⟨g346, rfl, hi, hb, hb2⟩; refine ⟨_, rfl, ?_⟩; replace HB := aa_ (hb); have HI346 := aa_ (hi); have NB346_342 := aa_ (IsS71.ne_blk hi (blk_below (g := gb342) (o := .cells #[.slice none 0 0] 27 (0, 0)) (bk_ BK342) hb2) (by decide)); have NB342_346 := aa_ (Ne.symm (IsS71.ne_blk hi (blk_below (g := gb342) (o := .cells #[.slice none 0 0] 27 (0, 0)) (bk_ BK342) hb2) (by decide))); replace BK342 := aa_ (blk_below (g := gb342) (o := .cells #[.slice none 0 0] 27 (0, 0)) (bk_ BK342) hb2); (try clear hb hb2 hi)) | ((with_reducible refine gC_ 26 rfl ?_); refine goesC_ (some 5) Try.func26 #[.pointer (some ⟨g346, 0, none⟩)] ?_; (with_reducible refine (spec_l21Any.calls k g346 t343 t344 t345 t347 t350 t351 w _ ?side1 ?side2 A3.out).mono ?_); (case side1 => exact IsS71.nw_); (case side2 => repeat (first | (with_reducible first | exact HB.out | apply below_alloc | apply pw_below_drewN | apply below_drew1 | refine below_set ?_ (IsS71.ge HI346.out) | refine below_set ?_ GE342.out) | exact HB.out)); rintro e w6 ⟨v348, rfl, ho0, hi, hb, hk⟩; refine ⟨_, rfl, ?_⟩; replace BK342 := aa_ (KeepBut.blk hk (g' := gb342) (o := .cells #[.slice none 0 0] 27 (0, 0)) (bk_ BK342) NB342_346.out (by simp)); have HO349 := aa_ (Kd.R_lower ho0 (below_size (by repeat (first | (with_reducible first | exact HB.out | apply below_alloc | apply pw_below_drewN | apply below_drew1 | refine below_set ?_ (IsS71.ge HI346.out) | refine below_set ?_ GE342.out) | exact HB.out)))); replace HB := aa_ (hb); replace HI346 := aa_ (hi); (try clear hb hk hi ho0); obtain ⟨Ao7, co7, eo7⟩ := Kd.R_slice HO349.out; subst eo7; have hnb8 := NB342_346.out; have hnc8 := NB346_342.out; obtain ⟨hcz9, hfz9⟩ := bcf_ BK342))
 refine bodyPost_ret (results_cell_row rfl _ _ gb342 27 #[.slice Ao7 t347.length co7] (0, 0) _ rfl (bk_ BK342) Try.underlying27 rfl (by kernel_rfl)) rfl ?_
 exact ⟨_, eq_, by (with_reducible repeat (first | apply Kd.R_alloc | apply Kd.R_drewN | apply Kd.R_drew)); exact Kd.R_mono (Kd.R_far (p := ⟨gb342, 0, none⟩) (Kd.R_types HO349.out BK342.out (by decide)) (fun _ hk => hk.2) (.slice Ao7 t347.length co7)) (fun _ hk => trivial), by repeat (first | (with_reducible first | exact HB.out | apply below_alloc | apply pw_below_drewN | apply below_drew1 | refine below_set ?_ (IsS71.ge HI346.out) | refine below_set ?_ GE342.out) | exact HB.out)⟩
def spec_l01In.f (a0 : Int) (a1 : Int) (a2 : Int) : Option (Bool) := if a0 ≥ a1 then (some (decide (a0 ≤ a2))) else (some false)
set_option maxHeartbeats 8000000 in
set_option maxRecDepth 100000 in
theorem spec_l01In.calls (a0 : Int) (a1 : Int) (a2 : Int) (r : Bool) (w : World) (h : spec_l01In.f a0 a1 a2 = some r) :
  Calls Try.prog 40 #[.int .i64 a0, .int .i64 a1, .int .i64 a2] w fun e w' => e = .returned (.bool r) ∧ Drawn0 w w' := by
 have H : (if a0 ≥ a1 then (some (decide (a0 ≤ a2))) else (some false)) = some r := h
 clear h
 by_cases c4 : a0 ≥ a1
 ·rw [if_pos c4] at H
  have c4b0 : decide (a1 ≤ a0) = true := decide_eq_true c4
  clear c4
  obtain rfl := Option.some.inj H
  go_enter Try.func40, Try.ntmps40
  go_wp2
  go_ret
  exact ⟨by first | rfl | (simp; done) | (simp [*]; done), by repeat (first | exact Drawn0.refl _ | apply Drawn0.step)⟩
 ·rw [if_neg c4] at H
  have c4b0 : decide (a1 ≤ a0) = false := decide_eq_false c4
  clear c4
  obtain rfl := Option.some.inj H
  go_enter Try.func40, Try.ntmps40
  go_wp2
  go_ret
  exact ⟨by first | rfl | (simp; done) | (simp [*]; done), by repeat (first | exact Drawn0.refl _ | apply Drawn0.step)⟩
end Go.Proofs.Ytnoklfpnmopkpaa.PE
