import Derived.Test.YtamhfnedknjjbaaKTPBx5
-- printed by wip/tools
namespace Go.Proofs.Ytamhfnedknjjbaa.PB
open Go.RowKit Go.Proofs.YtamhfnedknjjbaaW.PrintWords Go.Proofs.YtamhfnedknjjbaaW.PrintLast Go.Proofs.YtamhfnedknjjbaaW.PrintMore
attribute [local go_sem] max2_int min2_int max_two min_two max_three min_three max_four min_four
set_option linter.unusedVariables false
set_option linter.unusedSimpArgs false
def spec_l05Any.f (s0_0 : List Int) (s0_1 : Int) (s0_2 : Int) : Option (Int × Int × Int × Int × Int × Int × Int × Int × Int × Int × Int × Int) := (spec_l01Below.f s0_0 s0_1 s0_2 10).bind fun bt199 => ((spec_l01Below.f s0_0 bt199.2.1 bt199.2.2 60).bind fun bt202 => ((spec_l05Cred.f s0_0 bt202.2.1 bt202.2.2).bind fun bt205 => (if bt199.1 = 0 then (some (Int.tmod bt202.1 6, bt205.2.1, bt205.2.2.1, bt205.2.2.2.1, bt205.2.2.2.2.1, bt205.2.2.2.2.2.1, bt205.2.2.2.2.2.2.1, bt205.2.2.2.2.2.2.2.1, bt205.2.2.2.2.2.2.2.2.1, bt205.2.2.2.2.2.2.2.2.2.1, bt205.2.2.2.2.2.2.2.2.2.2.1, bt205.2.2.2.2.2.2.2.2.2.2.2)) else (if bt199.1 = 1 then (some (bt205.1, bt205.2.1, bt205.2.2.1, wrap64 ((Int.tmod bt202.1 9) - 1), bt205.2.2.2.2.1, bt205.2.2.2.2.2.1, bt205.2.2.2.2.2.2.1, bt205.2.2.2.2.2.2.2.1, bt205.2.2.2.2.2.2.2.2.1, bt205.2.2.2.2.2.2.2.2.2.1, bt205.2.2.2.2.2.2.2.2.2.2.1, bt205.2.2.2.2.2.2.2.2.2.2.2)) else (if bt199.1 = 2 then (some (bt205.1, bt205.2.1, bt205.2.2.1, bt205.2.2.2.1, Int.tmod bt202.1 8, Int.tmod bt202.1 5, bt205.2.2.2.2.2.2.1, bt205.2.2.2.2.2.2.2.1, bt205.2.2.2.2.2.2.2.2.1, bt205.2.2.2.2.2.2.2.2.2.1, bt205.2.2.2.2.2.2.2.2.2.2.1, bt205.2.2.2.2.2.2.2.2.2.2.2)) else (if bt199.1 = 3 then (some (bt205.1, bt205.2.1, bt205.2.2.1, bt205.2.2.2.1, bt205.2.2.2.2.1, bt205.2.2.2.2.2.1, Int.tmod bt202.1 3, bt205.2.2.2.2.2.2.2.1, bt205.2.2.2.2.2.2.2.2.1, bt205.2.2.2.2.2.2.2.2.2.1, bt205.2.2.2.2.2.2.2.2.2.2.1, bt205.2.2.2.2.2.2.2.2.2.2.2)) else (if bt199.1 = 4 then ((some (([0, 10000, 1] : List Int) : List Int)).bind fun y218 => (if 0 ≤ (Int.tmod bt202.1 3) then (if (Int.tmod bt202.1 3) < (y218.length : Int) then (some (bt205.1, bt205.2.1, bt205.2.2.1, bt205.2.2.2.1, bt205.2.2.2.2.1, bt205.2.2.2.2.2.1, bt205.2.2.2.2.2.2.1, bt205.2.2.2.2.2.2.2.1, rd y218 (Int.tmod bt202.1 3), bt205.2.2.2.2.2.2.2.2.2.1, bt205.2.2.2.2.2.2.2.2.2.2.1, bt205.2.2.2.2.2.2.2.2.2.2.2)) else (none)) else (none))) else (some (bt205.1, bt205.2.1, bt205.2.2.1, bt205.2.2.2.1, bt205.2.2.2.2.1, bt205.2.2.2.2.2.1, bt205.2.2.2.2.2.2.1, bt205.2.2.2.2.2.2.2.1, bt205.2.2.2.2.2.2.2.2.1, bt205.2.2.2.2.2.2.2.2.2.1, bt205.2.2.2.2.2.2.2.2.2.2.1, bt205.2.2.2.2.2.2.2.2.2.2.2)))))))))
set_option maxHeartbeats 8000000 in
set_option maxRecDepth 100000 in
theorem spec_l05Any.calls (g : Nat) (s0_0 : List Int) (s0_1 : Int) (s0_2 : Int) (r1 : Int) (r2 : Int) (r3 : Int) (r4 : Int) (r5 : Int) (r6 : Int) (r7 : Int) (r8 : Int) (r9 : Int) (r10 : Int) (r11 : Int) (r12 : Int) (w0 w : World) (hI : IsS64 w0 w g s0_0 s0_1 s0_2) (hB : Below w0.heap.size w0 w) (h : spec_l05Any.f s0_0 s0_1 s0_2 = some (r1, r2, r3, r4, r5, r6, r7, r8, r9, r10, r11, r12)) :
  Calls Try.prog 46 #[.pointer (some ⟨g, 0, none⟩)] w fun e w' => e = .returned (.agg #[.int .i64 r1, .int .i64 r2, .int .i64 r3, .int .i64 r4, .int .i64 r5, .int .i64 r6, .int .i64 r7, .int .i64 r8, .int .i64 r9, .int .i64 r10]) ∧ IsS64 w0 w' g s0_0 r11 r12 ∧ Below w0.heap.size w0 w' ∧ KeepBut w w' g none := by
 have hu49 := Try.underlying49
 have hu26 := Try.underlying26
 have HI0 := Aside0.mk hI
 have HK := Aside0.mk (KeepBut.refl w g none)
 have HL := Aside0.mk hB.size
 clear hI
 have HW0 := Aside0.mk hB.size
 have HB := Aside0.mk hB
 clear hB
 have H : ((spec_l01Below.f s0_0 s0_1 s0_2 10).bind fun bt199 => ((spec_l01Below.f s0_0 bt199.2.1 bt199.2.2 60).bind fun bt202 => ((spec_l05Cred.f s0_0 bt202.2.1 bt202.2.2).bind fun bt205 => (if bt199.1 = 0 then (some (Int.tmod bt202.1 6, bt205.2.1, bt205.2.2.1, bt205.2.2.2.1, bt205.2.2.2.2.1, bt205.2.2.2.2.2.1, bt205.2.2.2.2.2.2.1, bt205.2.2.2.2.2.2.2.1, bt205.2.2.2.2.2.2.2.2.1, bt205.2.2.2.2.2.2.2.2.2.1, bt205.2.2.2.2.2.2.2.2.2.2.1, bt205.2.2.2.2.2.2.2.2.2.2.2)) else (if bt199.1 = 1 then (some (bt205.1, bt205.2.1, bt205.2.2.1, wrap64 ((Int.tmod bt202.1 9) - 1), bt205.2.2.2.2.1, bt205.2.2.2.2.2.1, bt205.2.2.2.2.2.2.1, bt205.2.2.2.2.2.2.2.1, bt205.2.2.2.2.2.2.2.2.1, bt205.2.2.2.2.2.2.2.2.2.1, bt205.2.2.2.2.2.2.2.2.2.2.1, bt205.2.2.2.2.2.2.2.2.2.2.2)) else (if bt199.1 = 2 then (some (bt205.1, bt205.2.1, bt205.2.2.1, bt205.2.2.2.1, Int.tmod bt202.1 8, Int.tmod bt202.1 5, bt205.2.2.2.2.2.2.1, bt205.2.2.2.2.2.2.2.1, bt205.2.2.2.2.2.2.2.2.1, bt205.2.2.2.2.2.2.2.2.2.1, bt205.2.2.2.2.2.2.2.2.2.2.1, bt205.2.2.2.2.2.2.2.2.2.2.2)) else (if bt199.1 = 3 then (some (bt205.1, bt205.2.1, bt205.2.2.1, bt205.2.2.2.1, bt205.2.2.2.2.1, bt205.2.2.2.2.2.1, Int.tmod bt202.1 3, bt205.2.2.2.2.2.2.2.1, bt205.2.2.2.2.2.2.2.2.1, bt205.2.2.2.2.2.2.2.2.2.1, bt205.2.2.2.2.2.2.2.2.2.2.1, bt205.2.2.2.2.2.2.2.2.2.2.2)) else (if bt199.1 = 4 then ((some (([0, 10000, 1] : List Int) : List Int)).bind fun y218 => (if 0 ≤ (Int.tmod bt202.1 3) then (if (Int.tmod bt202.1 3) < (y218.length : Int) then (some (bt205.1, bt205.2.1, bt205.2.2.1, bt205.2.2.2.1, bt205.2.2.2.2.1, bt205.2.2.2.2.2.1, bt205.2.2.2.2.2.2.1, bt205.2.2.2.2.2.2.2.1, rd y218 (Int.tmod bt202.1 3), bt205.2.2.2.2.2.2.2.2.2.1, bt205.2.2.2.2.2.2.2.2.2.2.1, bt205.2.2.2.2.2.2.2.2.2.2.2)) else (none)) else (none))) else (some (bt205.1, bt205.2.1, bt205.2.2.1, bt205.2.2.2.1, bt205.2.2.2.2.1, bt205.2.2.2.2.2.1, bt205.2.2.2.2.2.2.1, bt205.2.2.2.2.2.2.2.1, bt205.2.2.2.2.2.2.2.2.1, bt205.2.2.2.2.2.2.2.2.2.1, bt205.2.2.2.2.2.2.2.2.2.2.1, bt205.2.2.2.2.2.2.2.2.2.2.2)))))))))) = some (r1, r2, r3, r4, r5, r6, r7, r8, r9, r10, r11, r12) := h
 clear h
 obtain ⟨⟨t199, t200, t201⟩, A2, H⟩ := bindE_ H
 (try dsimp only at H)
 obtain ⟨⟨t202, t203, t204⟩, A3, H⟩ := bindE_ H
 (try dsimp only at H)
 obtain ⟨⟨t205, t206, t207, t208, t209, t210, t211, t212, t213, t214, t215, t216⟩, A4, H⟩ := bindE_ H
 (try dsimp only at H)
 have HC5 := Aside0.mk H
 clear H
 go_enter Try.func46, Try.ntmps46
 go_upto_if 13 with (first | ((with_reducible refine gate_dst (N := 2) rfl ?_); refine box_event ?hg (N := 2) ?hd (cs := #[.int .i64 0, .int .i64 0, .int .i64 0, .int .i64 0, .int .i64 0, .int .i64 0, .int .i64 0, .int .i64 0, .int .i64 0, .int .i64 0]) (t := 49) ?hr ?_; (case hd => rfl); (case hg => rfl); (case hr => first | (go_simp; done) | (go_simp; rfl)); intro gb198 hg w6 hbox hb; replace HB := Aside0.mk (below_step (by exact IsS64.bw_) hb); have BK198 := Aside0.mk (hbox); have GW198 := Aside0.mk ((by rw [hg]; exact (keep_size (w := w) (g := g) (row := none) (by exact kp_)) : w.heap.size ≤ gb198)); have GE198 := Aside0.mk ((Nat.le_trans HW0.out (by rw [hg]; exact (keep_size (w := w) (g := g) (row := none) (by exact kp_)) : w.heap.size ≤ gb198) : w0.heap.size ≤ gb198)); replace HK := Aside0.mk (KeepBut.trans (by exact kp_) (KeepBut.of_below hb g none) (.inl rfl)); have NB0_198 := Aside0.mk ((by rw [hg]; exact Nat.ne_of_lt (IsS64.lt (show IsS64 w0 _ g s0_0 s0_1 s0_2 from by exact IsS64.nw_)) : g ≠ gb198)); have NB198_0 := Aside0.mk ((by rw [hg]; exact Nat.ne_of_gt (IsS64.lt (show IsS64 w0 _ g s0_0 s0_1 s0_2 from by exact IsS64.nw_)) : gb198 ≠ g)); replace HI0 := Aside0.mk (IsS64.below (by exact IsS64.nw_) hb); clear hb hbox hg) | ((with_reducible refine gate_callee (f := 27) rfl ?_); refine goesC_ (some 7) Try.func27 #[.pointer (some ⟨g, 0, none⟩), .int .i64 10] ?_; (with_reducible refine (spec_l01Below.calls g s0_0 s0_1 s0_2 10 t199 t200 t201 w0 _ ?side1 ?side2 A2.out).mono ?_); (case side1 => exact IsS64.nw_); (case side2 => exact IsS64.bw_); rintro e w7 ⟨rfl, hi, hb, hk⟩; refine ⟨_, rfl, ?_⟩; replace BK198 := Aside0.mk (KeepBut.blk hk (g' := gb198) (o := .cells #[.int .i64 0, .int .i64 0, .int .i64 0, .int .i64 0, .int .i64 0, .int .i64 0, .int .i64 0, .int .i64 0, .int .i64 0, .int .i64 0] 49 (0, 0)) (bk_ BK198) NB198_0.out (by simp)); replace HK := Aside0.mk (KeepBut.trans (by exact kp_) hk (.inl rfl)); replace HB := Aside0.mk (hb); replace HI0 := Aside0.mk (hi); (try clear hb hk hi)) | ((with_reducible refine gate_callee (f := 27) rfl ?_); refine goesC_ (some 9) Try.func27 #[.pointer (some ⟨g, 0, none⟩), .int .i64 60] ?_; (with_reducible refine (spec_l01Below.calls g s0_0 t200 t201 60 t202 t203 t204 w0 _ ?side1 ?side2 A3.out).mono ?_); (case side1 => exact IsS64.nw_); (case side2 => exact IsS64.bw_); rintro e w8 ⟨rfl, hi, hb, hk⟩; refine ⟨_, rfl, ?_⟩; replace BK198 := Aside0.mk (KeepBut.blk hk (g' := gb198) (o := .cells #[.int .i64 0, .int .i64 0, .int .i64 0, .int .i64 0, .int .i64 0, .int .i64 0, .int .i64 0, .int .i64 0, .int .i64 0, .int .i64 0] 49 (0, 0)) (bk_ BK198) NB198_0.out (by simp)); replace HK := Aside0.mk (KeepBut.trans (by exact kp_) hk (.inl rfl)); replace HB := Aside0.mk (hb); replace HI0 := Aside0.mk (hi); (try clear hb hk hi)) | ((with_reducible refine gate_callee (f := 57) rfl ?_); refine goesC_ (some 11) Try.func57 #[.pointer (some ⟨g, 0, none⟩)] ?_; (with_reducible refine (spec_l05Cred.calls g s0_0 t203 t204 t205 t206 t207 t208 t209 t210 t211 t212 t213 t214 t215 t216 w0 _ ?side1 ?side2 A4.out).mono ?_); (case side1 => exact IsS64.nw_); (case side2 => exact IsS64.bw_); rintro e w9 ⟨rfl, hi, hb, hk⟩; refine ⟨_, rfl, ?_⟩; replace BK198 := Aside0.mk (KeepBut.blk hk (g' := gb198) (o := .cells #[.int .i64 0, .int .i64 0, .int .i64 0, .int .i64 0, .int .i64 0, .int .i64 0, .int .i64 0, .int .i64 0, .int .i64 0, .int .i64 0] 49 (0, 0)) (bk_ BK198) NB198_0.out (by simp)); replace HK := Aside0.mk (KeepBut.trans (by exact kp_) hk (.inl rfl)); replace HB := Aside0.mk (hb); replace HI0 := Aside0.mk (hi); (try clear hb hk hi)) | ((with_reducible refine gate_dst (N := 5) rfl ?_); refine box_event ?hg (N := 5) ?hd (cs := #[.int .i64 0, .int .i64 0, .int .i64 0, .int .i64 0, .int .i64 0, .int .i64 0, .int .i64 0, .int .i64 0, .int .i64 0, .int .i64 0]) (t := 49) ?hr ?_; (case hd => rfl); (case hg => rfl); (case hr => first | (go_simp; done) | (go_simp; rfl)); intro gb217 hg w10 hbox hb; replace HB := Aside0.mk (below_step (by exact IsS64.bw_) hb); have BK217 := Aside0.mk (hbox); have GW217 := Aside0.mk ((by rw [hg]; exact (keep_size (w := w) (g := g) (row := none) (by exact kp_)) : w.heap.size ≤ gb217)); have GE217 := Aside0.mk ((Nat.le_trans HW0.out (by rw [hg]; exact (keep_size (w := w) (g := g) (row := none) (by exact kp_)) : w.heap.size ≤ gb217) : w0.heap.size ≤ gb217)); replace HK := Aside0.mk (KeepBut.trans (by exact kp_) (KeepBut.of_below hb g none) (.inl rfl)); have NB198_217 := nl_ hg BK198; have NB217_198 := nr_ hg BK198; replace BK198 := bkb_ BK198 hb; have NB0_217 := Aside0.mk ((by rw [hg]; exact Nat.ne_of_lt (IsS64.lt (show IsS64 w0 _ g s0_0 t215 t216 from by exact IsS64.nw_)) : g ≠ gb217)); have NB217_0 := Aside0.mk ((by rw [hg]; exact Nat.ne_of_gt (IsS64.lt (show IsS64 w0 _ g s0_0 t215 t216 from by exact IsS64.nw_)) : gb217 ≠ g)); replace HI0 := Aside0.mk (IsS64.below (by exact IsS64.nw_) hb); clear hb hbox hg; have hnb11 := NB217_198.out; have hnc11 := NB198_217.out; have hnb12 := NB217_0.out; have hnc12 := NB0_217.out; obtain ⟨hcz13, hfz13⟩ := bcf_ BK217))
 have n0_ : Aside0 (((((((((((w10.setCell ⟨gb217, 0, none⟩ (.int .i64 t205)).setCell ⟨gb217, 1, none⟩ (.int .i64 t206)).setCell ⟨gb217, 2, none⟩ (.int .i64 t207)).setCell ⟨gb217, 3, none⟩ (.int .i64 t208)).setCell ⟨gb217, 4, none⟩ (.int .i64 t209)).setCell ⟨gb217, 5, none⟩ (.int .i64 t210)).setCell ⟨gb217, 6, none⟩ (.int .i64 t211)).setCell ⟨gb217, 7, none⟩ (.int .i64 t212)).setCell ⟨gb217, 8, none⟩ (.int .i64 t213)).setCell ⟨gb217, 9, none⟩ (.int .i64 t214)).heap[gb198]? = some (.cells #[.int .i64 0, .int .i64 0, .int .i64 0, .int .i64 0, .int .i64 0, .int .i64 0, .int .i64 0, .int .i64 0, .int .i64 0, .int .i64 0] 49 (0, 0))) := ⟨bk_ BK198⟩
 have n1_ : Aside0 (((((((((((w10.setCell ⟨gb217, 0, none⟩ (.int .i64 t205)).setCell ⟨gb217, 1, none⟩ (.int .i64 t206)).setCell ⟨gb217, 2, none⟩ (.int .i64 t207)).setCell ⟨gb217, 3, none⟩ (.int .i64 t208)).setCell ⟨gb217, 4, none⟩ (.int .i64 t209)).setCell ⟨gb217, 5, none⟩ (.int .i64 t210)).setCell ⟨gb217, 6, none⟩ (.int .i64 t211)).setCell ⟨gb217, 7, none⟩ (.int .i64 t212)).setCell ⟨gb217, 8, none⟩ (.int .i64 t213)).setCell ⟨gb217, 9, none⟩ (.int .i64 t214)).heap[gb217]? = some (.cells #[.int .i64 t205, .int .i64 t206, .int .i64 t207, .int .i64 t208, .int .i64 t209, .int .i64 t210, .int .i64 t211, .int .i64 t212, .int .i64 t213, .int .i64 t214] 49 (0, 0))) := ⟨bk_ BK217⟩
 have n2_ : Aside0 (IsS64 w0 ((((((((((w10.setCell ⟨gb217, 0, none⟩ (.int .i64 t205)).setCell ⟨gb217, 1, none⟩ (.int .i64 t206)).setCell ⟨gb217, 2, none⟩ (.int .i64 t207)).setCell ⟨gb217, 3, none⟩ (.int .i64 t208)).setCell ⟨gb217, 4, none⟩ (.int .i64 t209)).setCell ⟨gb217, 5, none⟩ (.int .i64 t210)).setCell ⟨gb217, 6, none⟩ (.int .i64 t211)).setCell ⟨gb217, 7, none⟩ (.int .i64 t212)).setCell ⟨gb217, 8, none⟩ (.int .i64 t213)).setCell ⟨gb217, 9, none⟩ (.int .i64 t214)) g s0_0 t215 t216) := ⟨by exact IsS64.nw_⟩
 have n3_ : Aside0 (KeepBut w ((((((((((w10.setCell ⟨gb217, 0, none⟩ (.int .i64 t205)).setCell ⟨gb217, 1, none⟩ (.int .i64 t206)).setCell ⟨gb217, 2, none⟩ (.int .i64 t207)).setCell ⟨gb217, 3, none⟩ (.int .i64 t208)).setCell ⟨gb217, 4, none⟩ (.int .i64 t209)).setCell ⟨gb217, 5, none⟩ (.int .i64 t210)).setCell ⟨gb217, 6, none⟩ (.int .i64 t211)).setCell ⟨gb217, 7, none⟩ (.int .i64 t212)).setCell ⟨gb217, 8, none⟩ (.int .i64 t213)).setCell ⟨gb217, 9, none⟩ (.int .i64 t214)) g none) := ⟨by exact kp_⟩
 have n4_ : Aside0 (Below w0.heap.size w0 ((((((((((w10.setCell ⟨gb217, 0, none⟩ (.int .i64 t205)).setCell ⟨gb217, 1, none⟩ (.int .i64 t206)).setCell ⟨gb217, 2, none⟩ (.int .i64 t207)).setCell ⟨gb217, 3, none⟩ (.int .i64 t208)).setCell ⟨gb217, 4, none⟩ (.int .i64 t209)).setCell ⟨gb217, 5, none⟩ (.int .i64 t210)).setCell ⟨gb217, 6, none⟩ (.int .i64 t211)).setCell ⟨gb217, 7, none⟩ (.int .i64 t212)).setCell ⟨gb217, 8, none⟩ (.int .i64 t213)).setCell ⟨gb217, 9, none⟩ (.int .i64 t214))) := ⟨by exact IsS64.bw_⟩
 (try clear BK198)
 (try clear BK217)
 (try clear HI0)
 (try clear HK)
 (try clear HB)
 generalize ((((((((((w10.setCell ⟨gb217, 0, none⟩ (.int .i64 t205)).setCell ⟨gb217, 1, none⟩ (.int .i64 t206)).setCell ⟨gb217, 2, none⟩ (.int .i64 t207)).setCell ⟨gb217, 3, none⟩ (.int .i64 t208)).setCell ⟨gb217, 4, none⟩ (.int .i64 t209)).setCell ⟨gb217, 5, none⟩ (.int .i64 t210)).setCell ⟨gb217, 6, none⟩ (.int .i64 t211)).setCell ⟨gb217, 7, none⟩ (.int .i64 t212)).setCell ⟨gb217, 8, none⟩ (.int .i64 t213)).setCell ⟨gb217, 9, none⟩ (.int .i64 t214)) = w14 at n0_ n1_ n2_ n3_ n4_ ⊢
 have BK198 := n0_
 have BK217 := n1_
 have HI0 := n2_
 have HK := n3_
 have HB := n4_
 clear n0_ n1_ n2_ n3_ n4_
 (try simp only [Act.put, List.setIfInBounds_toArray, List.set_cons_zero, List.set_cons_succ])
 have H := HC5.out
 clear HC5
 by_cases c15 : t199 = 0
 ·rw [if_pos c15] at H
  have c15b0 : (t199 == 0) = true := beq_iff_eq.mpr c15
  have c15b1 : (t199 != 0) = false := bne_eq_false_iff_eq.mpr c15
  clear c15
  (first | rw [c15b0] | (simp only [i64_w, i32_w]; rw [c15b0]) | skip)
  simp only [Option.some.injEq, Prod.mk.injEq] at H
  obtain ⟨rfl, rfl, rfl, rfl, rfl, rfl, rfl, rfl, rfl, rfl, rfl, rfl⟩ := H
  have hnb16 := NB217_198.out
  have hnc16 := NB198_217.out
  have hnb17 := NB217_0.out
  have hnc17 := NB0_217.out
  have hcz18 := blk_cell BK217.out
  have hfz18 := blk_frozen BK217.out
  have hnb19 := NB198_0.out
  have hnc19 := NB0_198.out
  have hcz20 := blk_cell BK198.out
  have hfz20 := blk_frozen BK198.out
  go_wp2
  refine bodyPost_ret (results_cell_row rfl _ _ gb198 49 #[.int .i64 (Int.tmod t202 6), .int .i64 t206, .int .i64 t207, .int .i64 t208, .int .i64 t209, .int .i64 t210, .int .i64 t211, .int .i64 t212, .int .i64 t213, .int .i64 t214] (0, 0) _ rfl (bk_ BK198) Try.underlying49 rfl (by kernel_rfl)) rfl ?_
  exact ⟨eq_, by exact IsS64.nw_, by exact IsS64.bw_, by exact kp_⟩
 ·rw [if_neg c15] at H
  have c15b0 : (t199 == 0) = false := beq_eq_false_iff_ne.mpr c15
  have c15b1 : (t199 != 0) = true := bne_iff_ne.mpr c15
  (first | rw [c15b0] | (simp only [i64_w, i32_w]; rw [c15b0]) | skip)
  by_cases c21 : t199 = 1
  ·rw [if_pos c21] at H
   have c21b0 : (t199 == 1) = true := beq_iff_eq.mpr c21
   have c21b1 : (t199 != 1) = false := bne_eq_false_iff_eq.mpr c21
   clear c21
   simp only [Option.some.injEq, Prod.mk.injEq] at H
   obtain ⟨rfl, rfl, rfl, rfl, rfl, rfl, rfl, rfl, rfl, rfl, rfl, rfl⟩ := H
   have hnb22 := NB217_198.out
   have hnc22 := NB198_217.out
   have hnb23 := NB217_0.out
   have hnc23 := NB0_217.out
   have hcz24 := blk_cell BK217.out
   have hfz24 := blk_frozen BK217.out
   have hnb25 := NB198_0.out
   have hnc25 := NB0_198.out
   have hcz26 := blk_cell BK198.out
   have hfz26 := blk_frozen BK198.out
   go_wp2
   refine bodyPost_ret (results_cell_row rfl _ _ gb198 49 #[.int .i64 t205, .int .i64 t206, .int .i64 t207, .int .i64 (wrap64 ((Int.tmod t202 9) - 1)), .int .i64 t209, .int .i64 t210, .int .i64 t211, .int .i64 t212, .int .i64 t213, .int .i64 t214] (0, 0) _ rfl (bk_ BK198) Try.underlying49 rfl (by kernel_rfl)) rfl ?_
   exact ⟨eq_, by exact IsS64.nw_, by exact IsS64.bw_, by exact kp_⟩
  ·rw [if_neg c21] at H
   have c21b0 : (t199 == 1) = false := beq_eq_false_iff_ne.mpr c21
   have c21b1 : (t199 != 1) = true := bne_iff_ne.mpr c21
   by_cases c27 : t199 = 2
   ·rw [if_pos c27] at H
    have c27b0 : (t199 == 2) = true := beq_iff_eq.mpr c27
    have c27b1 : (t199 != 2) = false := bne_eq_false_iff_eq.mpr c27
    clear c27
    simp only [Option.some.injEq, Prod.mk.injEq] at H
    obtain ⟨rfl, rfl, rfl, rfl, rfl, rfl, rfl, rfl, rfl, rfl, rfl, rfl⟩ := H
    have hnb28 := NB217_198.out
    have hnc28 := NB198_217.out
    have hnb29 := NB217_0.out
    have hnc29 := NB0_217.out
    have hcz30 := blk_cell BK217.out
    have hfz30 := blk_frozen BK217.out
    have hnb31 := NB198_0.out
    have hnc31 := NB0_198.out
    have hcz32 := blk_cell BK198.out
    have hfz32 := blk_frozen BK198.out
    go_wp2
    refine bodyPost_ret (results_cell_row rfl _ _ gb198 49 #[.int .i64 t205, .int .i64 t206, .int .i64 t207, .int .i64 t208, .int .i64 (Int.tmod t202 8), .int .i64 (Int.tmod t202 5), .int .i64 t211, .int .i64 t212, .int .i64 t213, .int .i64 t214] (0, 0) _ rfl (bk_ BK198) Try.underlying49 rfl (by kernel_rfl)) rfl ?_
    exact ⟨eq_, by exact IsS64.nw_, by exact IsS64.bw_, by exact kp_⟩
   ·rw [if_neg c27] at H
    have c27b0 : (t199 == 2) = false := beq_eq_false_iff_ne.mpr c27
    have c27b1 : (t199 != 2) = true := bne_iff_ne.mpr c27
    by_cases c33 : t199 = 3
    ·rw [if_pos c33] at H
     have c33b0 : (t199 == 3) = true := beq_iff_eq.mpr c33
     have c33b1 : (t199 != 3) = false := bne_eq_false_iff_eq.mpr c33
     clear c33
     simp only [Option.some.injEq, Prod.mk.injEq] at H
     obtain ⟨rfl, rfl, rfl, rfl, rfl, rfl, rfl, rfl, rfl, rfl, rfl, rfl⟩ := H
     have hnb34 := NB217_198.out
     have hnc34 := NB198_217.out
     have hnb35 := NB217_0.out
     have hnc35 := NB0_217.out
     have hcz36 := blk_cell BK217.out
     have hfz36 := blk_frozen BK217.out
     have hnb37 := NB198_0.out
     have hnc37 := NB0_198.out
     have hcz38 := blk_cell BK198.out
     have hfz38 := blk_frozen BK198.out
     go_wp2
     refine bodyPost_ret (results_cell_row rfl _ _ gb198 49 #[.int .i64 t205, .int .i64 t206, .int .i64 t207, .int .i64 t208, .int .i64 t209, .int .i64 t210, .int .i64 (Int.tmod t202 3), .int .i64 t212, .int .i64 t213, .int .i64 t214] (0, 0) _ rfl (bk_ BK198) Try.underlying49 rfl (by kernel_rfl)) rfl ?_
     exact ⟨eq_, by exact IsS64.nw_, by exact IsS64.bw_, by exact kp_⟩
    ·rw [if_neg c33] at H
     have c33b0 : (t199 == 3) = false := beq_eq_false_iff_ne.mpr c33
     have c33b1 : (t199 != 3) = true := bne_iff_ne.mpr c33
     by_cases c39 : t199 = 4
     ·rw [if_pos c39] at H
      have c39b0 : (t199 == 4) = true := beq_iff_eq.mpr c39
      have c39b1 : (t199 != 4) = false := bne_eq_false_iff_eq.mpr c39
      clear c39
      obtain ⟨y218, hy218⟩ : ∃ y_ : List Int, y_ = (([0, 10000, 1] : List Int)) := ⟨_, rfl⟩
      replace H : (if 0 ≤ (Int.tmod t202 3) then (if (Int.tmod t202 3) < (y218.length : Int) then (some (t205, t206, t207, t208, t209, t210, t211, t212, rd y218 (Int.tmod t202 3), t214, t215, t216)) else (none)) else (none)) = some (r1, r2, r3, r4, r5, r6, r7, r8, r9, r10, r11, r12) := rh_ hy218 H
      have Ny218 := Aside0.mk hy218
      clear hy218
      obtain ⟨ji40, hji40⟩ : ∃ j_ : Int, (Int.tmod t202 3) = j_ := ⟨_, rfl⟩
      replace H : (if 0 ≤ (ji40) then (if (ji40) < (y218.length : Int) then (some (t205, t206, t207, t208, t209, t210, t211, t212, rd y218 (ji40), t214, t215, t216)) else (none)) else (none)) = some (r1, r2, r3, r4, r5, r6, r7, r8, r9, r10, r11, r12) := by first | (rw [hji40] at H; exact H) | (simp only [hji40] at H ⊢; exact H)
      obtain ⟨c41b0, H⟩ := ifd_ H
      obtain ⟨c42b0, H⟩ := ifd_ H
      simp only [Option.some.injEq, Prod.mk.injEq] at H
      obtain ⟨rfl, rfl, rfl, rfl, rfl, rfl, rfl, rfl, rfl, rfl, rfl, rfl⟩ := H
      go_wp2_with (first | ((with_reducible refine gate_dst (N := 40) rfl ?_); refine Kd.R_lit (Kd.int .i64) _ 3 ?hg (N := 40) ?hd (xs := ([0, 10000, 1] : List Int)) (inner := [.int .i64 0, .int .i64 10000, .int .i64 1]) (ok := fun _ => True) (okp := fun _ => True) ?hr ?hp (fun _ hk => hk) trivial (Below.refl _ _) (Nat.le_refl _) (by simp) ?_; (case hd => rfl); (case hg => rfl); (case hr => first | (go_simp; done) | (go_simp; rfl)); (case hp => exact (Reps.one (show Kd.M (Kd.int .i64) _ _ _ 0 [.int .i64 0] from rfl) (Reps.one (show Kd.M (Kd.int .i64) _ _ _ 10000 [.int .i64 10000] from rfl) (Reps.one (show Kd.M (Kd.int .i64) _ _ _ 1 [.int .i64 1] from rfl) (Reps.none _ _))))); intro v219 w43 ho44 hb hg_ hnew_; clear hg_ hnew_; (first | rw [← Ny218.out] at ho44 | (simp only [Int.reduceToNat] at ho44; rw [← Ny218.out] at ho44)); have HO220 := Aside0.mk (Kd.R_lower ho44 (keep_size (w := w) (g := g) (row := none) (by exact kp_))); replace BK198 := bkb_ BK198 hb; replace BK217 := bkb_ BK217 hb; replace HK := Aside0.mk (KeepBut.trans (by exact kp_) (KeepBut.of_below hb g none) (.inl rfl)); replace HB := Aside0.mk (below_step (by exact IsS64.bw_) hb); replace HI0 := Aside0.mk (IsS64.below (by exact IsS64.nw_) hb); clear hb ho44; obtain ⟨Ao45, co45, eo45⟩ := Kd.R_slice HO220.out; subst eo45; have p221 : 0 ≤ ((ji40) : Int) := od_; have q221 : (ji40) < (y218.length : Int) := od_; obtain ⟨ad221, e221, hx221_0⟩ := Kd.at_int (Kd.R_reads' HO220.out).2.2 (ji40) p221 q221; cases e221; replace p221 := eq_true p221; replace q221 := eq_true q221; have hnb46 := NB217_198.out; have hnc46 := NB198_217.out; have hnb47 := NB217_0.out; have hnc47 := NB0_217.out; obtain ⟨hcz48, hfz48⟩ := bcf_ BK217; have hnb49 := NB198_0.out; have hnc49 := NB0_198.out; obtain ⟨hcz50, hfz50⟩ := bcf_ BK198))
      refine bodyPost_ret (results_cell_row rfl _ _ gb198 49 #[.int .i64 t205, .int .i64 t206, .int .i64 t207, .int .i64 t208, .int .i64 t209, .int .i64 t210, .int .i64 t211, .int .i64 t212, .int .i64 (rd y218 (ji40)), .int .i64 t214] (0, 0) _ rfl (bk_ BK198) Try.underlying49 rfl (by kernel_rfl)) rfl ?_
      exact ⟨by first | rfl | (simp [errW_none, errW_some] <;> rfl) | (simp only [← hji40]; first | rfl | (simp [errW_none, errW_some] <;> rfl)) | (simp [*, errW_none, errW_some] <;> rfl), by exact IsS64.nw_, by exact IsS64.bw_, by exact kp_⟩
     ·rw [if_neg c39] at H
      have c39b0 : (t199 == 4) = false := beq_eq_false_iff_ne.mpr c39
      have c39b1 : (t199 != 4) = true := bne_iff_ne.mpr c39
      simp only [Option.some.injEq, Prod.mk.injEq] at H
      obtain ⟨rfl, rfl, rfl, rfl, rfl, rfl, rfl, rfl, rfl, rfl, rfl, rfl⟩ := H
      have hnb51 := NB217_198.out
      have hnc51 := NB198_217.out
      have hnb52 := NB217_0.out
      have hnc52 := NB0_217.out
      have hcz53 := blk_cell BK217.out
      have hfz53 := blk_frozen BK217.out
      have hnb54 := NB198_0.out
      have hnc54 := NB0_198.out
      have hcz55 := blk_cell BK198.out
      have hfz55 := blk_frozen BK198.out
      go_wp2
      refine bodyPost_ret (results_cell_row rfl _ _ gb198 49 #[.int .i64 t205, .int .i64 t206, .int .i64 t207, .int .i64 t208, .int .i64 t209, .int .i64 t210, .int .i64 t211, .int .i64 t212, .int .i64 t213, .int .i64 t214] (0, 0) _ rfl (bk_ BK198) Try.underlying49 rfl (by kernel_rfl)) rfl ?_
      exact ⟨eq_, by exact IsS64.nw_, by exact IsS64.bw_, by exact kp_⟩
def spec_l06Any.f (k : Nat) (s0_0 : List Int) (s0_1 : Int) (s0_2 : Int) : Option ((List (S49)) × Int × Int) := (spec_l06Creds.f k s0_0 s0_1 s0_2).bind fun bt222 => ((spec_l01Once.f s0_0 bt222.2.1 bt222.2.2 4).bind fun bt227 => (if bt227.1 = true then ((spec_l05Any.f s0_0 bt227.2.1 bt227.2.2).bind fun bt230 => (if bt222.1.length < 1759218604441 then (some ((bt222.1 ++ [(⟨bt230.1, (⟨bt230.2.1, bt230.2.2.1⟩ : S26), bt230.2.2.2.1, (⟨bt230.2.2.2.2.1, bt230.2.2.2.2.2.1⟩ : S26), (⟨bt230.2.2.2.2.2.2.1, bt230.2.2.2.2.2.2.2.1⟩ : S26), bt230.2.2.2.2.2.2.2.2.1, bt230.2.2.2.2.2.2.2.2.2.1⟩ : S49)]), bt230.2.2.2.2.2.2.2.2.2.2.1, bt230.2.2.2.2.2.2.2.2.2.2.2)) else (none))) else (some (bt222.1, bt227.2.1, bt227.2.2))))
set_option maxHeartbeats 8000000 in
set_option maxRecDepth 100000 in
theorem spec_l06Any.calls (k : Nat) (g : Nat) (s0_0 : List Int) (s0_1 : Int) (s0_2 : Int) (r1 : List (S49)) (r2 : Int) (r3 : Int) (w0 w : World) (hI : IsS64 w0 w g s0_0 s0_1 s0_2) (hB : Below w0.heap.size w0 w) (h : spec_l06Any.f k s0_0 s0_1 s0_2 = some (r1, r2, r3)) :
  Calls Try.prog 28 #[.pointer (some ⟨g, 0, none⟩)] w fun e w' => ∃ v0_ : Value, e = .returned (v0_) ∧ Kd.R k49 49 w' w.heap.size (fun _ => True) v0_ r1 ∧ IsS64 w0 w' g s0_0 r2 r3 ∧ Below w0.heap.size w0 w' ∧ KeepBut w w' g none := by
 have HI0 := Aside0.mk hI
 have HK := Aside0.mk (KeepBut.refl w g none)
 have HL := Aside0.mk hB.size
 clear hI
 have HW0 := Aside0.mk hB.size
 have HB := Aside0.mk hB
 clear hB
 have H : ((spec_l06Creds.f k s0_0 s0_1 s0_2).bind fun bt222 => ((spec_l01Once.f s0_0 bt222.2.1 bt222.2.2 4).bind fun bt227 => (if bt227.1 = true then ((spec_l05Any.f s0_0 bt227.2.1 bt227.2.2).bind fun bt230 => (if bt222.1.length < 1759218604441 then (some ((bt222.1 ++ [(⟨bt230.1, (⟨bt230.2.1, bt230.2.2.1⟩ : S26), bt230.2.2.2.1, (⟨bt230.2.2.2.2.1, bt230.2.2.2.2.2.1⟩ : S26), (⟨bt230.2.2.2.2.2.2.1, bt230.2.2.2.2.2.2.2.1⟩ : S26), bt230.2.2.2.2.2.2.2.2.1, bt230.2.2.2.2.2.2.2.2.2.1⟩ : S49)]), bt230.2.2.2.2.2.2.2.2.2.2.1, bt230.2.2.2.2.2.2.2.2.2.2.2)) else (none))) else (some (bt222.1, bt227.2.1, bt227.2.2))))) = some (r1, r2, r3) := h
 clear h
 obtain ⟨⟨t222, t225, t226⟩, A2, H⟩ := bindE_ H
 replace H : ((spec_l01Once.f s0_0 t225 t226 4).bind fun bt227 => (if bt227.1 = true then ((spec_l05Any.f s0_0 bt227.2.1 bt227.2.2).bind fun bt230 => (if t222.length < 1759218604441 then (some ((t222 ++ [(⟨bt230.1, (⟨bt230.2.1, bt230.2.2.1⟩ : S26), bt230.2.2.2.1, (⟨bt230.2.2.2.2.1, bt230.2.2.2.2.2.1⟩ : S26), (⟨bt230.2.2.2.2.2.2.1, bt230.2.2.2.2.2.2.2.1⟩ : S26), bt230.2.2.2.2.2.2.2.2.1, bt230.2.2.2.2.2.2.2.2.2.1⟩ : S49)]), bt230.2.2.2.2.2.2.2.2.2.2.1, bt230.2.2.2.2.2.2.2.2.2.2.2)) else (none))) else (some (t222, bt227.2.1, bt227.2.2)))) = some (r1, r2, r3) := H
 obtain ⟨⟨t227, t228, t229⟩, A3, H⟩ := bindE_ H
 replace H : (if t227 = true then ((spec_l05Any.f s0_0 t228 t229).bind fun bt230 => (if t222.length < 1759218604441 then (some ((t222 ++ [(⟨bt230.1, (⟨bt230.2.1, bt230.2.2.1⟩ : S26), bt230.2.2.2.1, (⟨bt230.2.2.2.2.1, bt230.2.2.2.2.2.1⟩ : S26), (⟨bt230.2.2.2.2.2.2.1, bt230.2.2.2.2.2.2.2.1⟩ : S26), bt230.2.2.2.2.2.2.2.2.1, bt230.2.2.2.2.2.2.2.2.2.1⟩ : S49)]), bt230.2.2.2.2.2.2.2.2.2.2.1, bt230.2.2.2.2.2.2.2.2.2.2.2)) else (none))) else (some (t222, t228, t229))) = some (r1, r2, r3) := H
 have HC4 := Aside0.mk H
 clear H
 go_enter Try.func28, Try.ntmps28
 go_upto_if 7 with (first | ((with_reducible refine gate_callee (f := 44) rfl ?_); refine goesC_ (some 5) Try.func44 #[.pointer (some ⟨g, 0, none⟩)] ?_; (with_reducible refine (spec_l06Creds.calls k g s0_0 s0_1 s0_2 t222 t225 t226 w0 _ ?side1 ?side2 A2.out).mono ?_); (case side1 => exact IsS64.nw_); (case side2 => exact IsS64.bw_); rintro e w5 ⟨v223, rfl, ho0, hi, hb, hk⟩; refine ⟨_, rfl, ?_⟩; have HO224 := Aside0.mk (Kd.R_lower ho0 (keep_size (w := w) (g := g) (row := none) (by exact kp_))); replace HK := Aside0.mk (KeepBut.trans (by exact kp_) hk (.inl rfl)); replace HB := Aside0.mk (hb); replace HI0 := Aside0.mk (hi); (try clear hb hk hi ho0)) | ((with_reducible refine gate_callee (f := 45) rfl ?_); refine goesC_ (some 7) Try.func45 #[.pointer (some ⟨g, 0, none⟩), .int .i64 4] ?_; (with_reducible refine (spec_l01Once.calls g s0_0 t225 t226 4 t227 t228 t229 w0 _ ?side1 ?side2 A3.out).mono ?_); (case side1 => exact IsS64.nw_); (case side2 => exact IsS64.bw_); rintro e w6 ⟨rfl, hi, hb, hk⟩; refine ⟨_, rfl, ?_⟩; replace HO224 := Aside0.mk (Kd.R_mono (Kd.R_keep (IsS64.apart (show IsS64 w0 _ g s0_0 t225 t226 from by exact IsS64.nw_) (rr_ HO224) (by decide)) hk (fun _ h => h.2)) (fun _ h => h.1)); replace HK := Aside0.mk (KeepBut.trans (by exact kp_) hk (.inl rfl)); replace HB := Aside0.mk (hb); replace HI0 := Aside0.mk (hi); (try clear hb hk hi)))
 (try simp only [Act.put, List.setIfInBounds_toArray, List.set_cons_zero, List.set_cons_succ])
 have H := HC4.out
 clear HC4
 by_cases c7 : t227 = true
 ·subst c7
  replace H := ite_t_ H
  obtain ⟨⟨t230, t231, t232, t233, t234, t235, t236, t237, t238, t239, t240, t241⟩, A8, H⟩ := bindE_ H
  replace H : (if t222.length < 1759218604441 then (some ((t222 ++ [(⟨t230, (⟨t231, t232⟩ : S26), t233, (⟨t234, t235⟩ : S26), (⟨t236, t237⟩ : S26), t238, t239⟩ : S49)]), t240, t241)) else (none)) = some (r1, r2, r3) := H
  obtain ⟨c9, H⟩ := ifn_ H
  have LMc9 := Aside0.mk c9
  clear c9
  obtain ⟨y242, hy242⟩ : ∃ y_ : List (S49), y_ = (t222 ++ [(⟨t230, (⟨t231, t232⟩ : S26), t233, (⟨t234, t235⟩ : S26), (⟨t236, t237⟩ : S26), t238, t239⟩ : S49)]) := ⟨_, rfl⟩
  replace H : (some (y242, t240, t241)) = some (r1, r2, r3) := rh_ hy242 H
  have Ny242 := Aside0.mk hy242
  clear hy242
  simp only [Option.some.injEq, Prod.mk.injEq] at H
  obtain ⟨rfl, rfl, rfl⟩ := H
  go_wp2_with (first | ((with_reducible refine gate_callee (f := 46) rfl ?_); refine goesC_ (some 10) Try.func46 #[.pointer (some ⟨g, 0, none⟩)] ?_; (with_reducible refine (spec_l05Any.calls g s0_0 t228 t229 t230 t231 t232 t233 t234 t235 t236 t237 t238 t239 t240 t241 w0 _ ?side1 ?side2 A8.out).mono ?_); (case side1 => exact IsS64.nw_); (case side2 => exact IsS64.bw_); rintro e w10 ⟨rfl, hi, hb, hk⟩; refine ⟨_, rfl, ?_⟩; replace HO224 := Aside0.mk (Kd.R_mono (Kd.R_keep (IsS64.apart (show IsS64 w0 _ g s0_0 t228 t229 from by exact IsS64.nw_) (rr_ HO224) (by decide)) hk (fun _ h => h.2)) (fun _ h => h.1)); replace HK := Aside0.mk (KeepBut.trans (by exact kp_) hk (.inl rfl)); replace HB := Aside0.mk (hb); replace HI0 := Aside0.mk (hi); (try clear hb hk hi)) | ((with_reducible refine gate_builtin (b := .append) (xs := #[.tmp 8, .tmp 11]) rfl ?_); at_builtin; refine Kd.R_append k49 w.heap.size rfl (.tmp 8) (.tmp 11) 24 49 (.agg #[(.int .i64 0), (.int .i64 0), (.int .i64 0), (.int .i64 0), (.int .i64 0), (.int .i64 0), (.int .i64 0), (.int .i64 0), (.int .i64 0), (.int .i64 0)]) 80 rfl Try.underlying24 info49 rfl (by decide) (by omega) v223 t222 (⟨t230, (⟨t231, t232⟩ : S26), t233, (⟨t234, t235⟩ : S26), (⟨t236, t237⟩ : S26), t238, t239⟩ : S49) [.int .i64 t230, .int .i64 t231, .int .i64 t232, .int .i64 t233, .int .i64 t234, .int .i64 t235, .int .i64 t236, .int .i64 t237, .int .i64 t238, .int .i64 t239] (fun _ => True) (fun _ => False) rfl rfl ?aP (fun _ hk => hk.elim) ?aF ?aO (Below.refl _ _) ?aS ?aL ?_; (case aP => exact k49_mkM _ _ _ (⟨t230, (⟨t231, t232⟩ : S26), t233, (⟨t234, t235⟩ : S26), (⟨t236, t237⟩ : S26), t238, t239⟩ : S49)); (case aF => exact (fun _ _ => trivial)); (case aO => exact (rr_ HO224)); (case aS => exact (keep_size (w := w) (g := g) (row := none) (by exact kp_))); (case aL => have := LMc9.out; omega); intro v243 w11 ho hb hg hat; rw [← Ny242.out] at ho; replace HB := Aside0.mk (below_weaken (by exact IsS64.bw_) HL.out hb); replace HI0 := Aside0.mk (IsS64.grown (show IsS64 w0 _ g s0_0 t240 t241 from by exact IsS64.nw_) hg (IsS64.own_ne HI0.out HO224.out (by decide))); replace HK := Aside0.mk (KeepBut.trans (by exact kp_) (KeepBut.of_grown hg g) (Kd.R_base2 HO224.out)); have HO244 := Aside0.mk (ho); clear HO224; clear ho hb hg hat))
  go_ret
  exact ⟨_, eq_, by (with_reducible repeat (first | apply Kd.R_alloc | apply Kd.R_drewN | apply Kd.R_drew)); exact HO244.out, by exact IsS64.nw_, by exact IsS64.bw_, by exact kp_⟩
 ·replace c7 := Bool.eq_false_iff.mpr c7
  subst c7
  replace H := ite_f_ H
  simp only [Option.some.injEq, Prod.mk.injEq] at H
  obtain ⟨rfl, rfl, rfl⟩ := H
  go_wp2
  go_ret
  exact ⟨_, eq_, by (with_reducible repeat (first | apply Kd.R_alloc | apply Kd.R_drewN | apply Kd.R_drew)); exact HO224.out, by exact IsS64.nw_, by exact IsS64.bw_, by exact kp_⟩
def spec_l05AnyRole.f (s0_0 : List Int) (s0_1 : Int) (s0_2 : Int) : Option (Int × Int × Int × Int) := (spec_l05Role.f s0_0 s0_1 s0_2).bind fun bt246 => ((spec_l01Below.f s0_0 bt246.2.2.1 bt246.2.2.2 8).bind fun bt251 => (if bt251.1 = 0 then ((spec_l01PickInt.f s0_0 bt251.2.1 bt251.2.2 (([(-1), 6, 5] : List Int))).bind fun bt257 => (some (bt257.1, bt246.2.1, bt257.2.1, bt257.2.2))) else (if bt251.1 = 1 then ((spec_l01PickInt.f s0_0 bt251.2.1 bt251.2.2 (([(-1), 4, 3] : List Int))).bind fun bt263 => (some (bt246.1, bt263.1, bt263.2.1, bt263.2.2))) else (some (bt246.1, bt246.2.1, bt251.2.1, bt251.2.2)))))
set_option maxHeartbeats 8000000 in
set_option maxRecDepth 100000 in
theorem spec_l05AnyRole.calls (g : Nat) (s0_0 : List Int) (s0_1 : Int) (s0_2 : Int) (r1 : Int) (r2 : Int) (r3 : Int) (r4 : Int) (w0 w : World) (hI : IsS64 w0 w g s0_0 s0_1 s0_2) (hB : Below w0.heap.size w0 w) (h : spec_l05AnyRole.f s0_0 s0_1 s0_2 = some (r1, r2, r3, r4)) :
  Calls Try.prog 47 #[.pointer (some ⟨g, 0, none⟩)] w fun e w' => e = .returned (.agg #[.int .i64 r1, .int .i64 r2]) ∧ IsS64 w0 w' g s0_0 r3 r4 ∧ Below w0.heap.size w0 w' ∧ KeepBut w w' g none := by
 have hu26 := Try.underlying26
 have HI0 := Aside0.mk hI
 have HK := Aside0.mk (KeepBut.refl w g none)
 have HL := Aside0.mk hB.size
 clear hI
 have HW0 := Aside0.mk hB.size
 have HB := Aside0.mk hB
 clear hB
 have H : ((spec_l05Role.f s0_0 s0_1 s0_2).bind fun bt246 => ((spec_l01Below.f s0_0 bt246.2.2.1 bt246.2.2.2 8).bind fun bt251 => (if bt251.1 = 0 then ((spec_l01PickInt.f s0_0 bt251.2.1 bt251.2.2 (([(-1), 6, 5] : List Int))).bind fun bt257 => (some (bt257.1, bt246.2.1, bt257.2.1, bt257.2.2))) else (if bt251.1 = 1 then ((spec_l01PickInt.f s0_0 bt251.2.1 bt251.2.2 (([(-1), 4, 3] : List Int))).bind fun bt263 => (some (bt246.1, bt263.1, bt263.2.1, bt263.2.2))) else (some (bt246.1, bt246.2.1, bt251.2.1, bt251.2.2)))))) = some (r1, r2, r3, r4) := h
 clear h
 obtain ⟨⟨t246, t247, t248, t249⟩, A2, H⟩ := bindE_ H
 (try dsimp only at H)
 obtain ⟨⟨t251, t252, t253⟩, A3, H⟩ := bindE_ H
 (try dsimp only at H)
 have HC4 := Aside0.mk H
 clear H
 go_enter Try.func47, Try.ntmps47
 go_upto_if 8 with (first | ((with_reducible refine gate_dst (N := 2) rfl ?_); refine box_event ?hg (N := 2) ?hd (cs := #[.int .i64 0, .int .i64 0]) (t := 26) ?hr ?_; (case hd => rfl); (case hg => rfl); (case hr => first | (go_simp; done) | (go_simp; rfl)); intro gb245 hg w5 hbox hb; replace HB := Aside0.mk (below_step (by exact IsS64.bw_) hb); have BK245 := Aside0.mk (hbox); have GW245 := Aside0.mk ((by rw [hg]; exact (keep_size (w := w) (g := g) (row := none) (by exact kp_)) : w.heap.size ≤ gb245)); have GE245 := Aside0.mk ((Nat.le_trans HW0.out (by rw [hg]; exact (keep_size (w := w) (g := g) (row := none) (by exact kp_)) : w.heap.size ≤ gb245) : w0.heap.size ≤ gb245)); replace HK := Aside0.mk (KeepBut.trans (by exact kp_) (KeepBut.of_below hb g none) (.inl rfl)); have NB0_245 := Aside0.mk ((by rw [hg]; exact Nat.ne_of_lt (IsS64.lt (show IsS64 w0 _ g s0_0 s0_1 s0_2 from by exact IsS64.nw_)) : g ≠ gb245)); have NB245_0 := Aside0.mk ((by rw [hg]; exact Nat.ne_of_gt (IsS64.lt (show IsS64 w0 _ g s0_0 s0_1 s0_2 from by exact IsS64.nw_)) : gb245 ≠ g)); replace HI0 := Aside0.mk (IsS64.below (by exact IsS64.nw_) hb); clear hb hbox hg) | ((with_reducible refine gate_callee (f := 58) rfl ?_); refine goesC_ (some 5) Try.func58 #[.pointer (some ⟨g, 0, none⟩)] ?_; (with_reducible refine (spec_l05Role.calls g s0_0 s0_1 s0_2 t246 t247 t248 t249 w0 _ ?side1 ?side2 A2.out).mono ?_); (case side1 => exact IsS64.nw_); (case side2 => exact IsS64.bw_); rintro e w6 ⟨rfl, hi, hb, hk⟩; refine ⟨_, rfl, ?_⟩; replace BK245 := Aside0.mk (KeepBut.blk hk (g' := gb245) (o := .cells #[.int .i64 0, .int .i64 0] 26 (0, 0)) (bk_ BK245) NB245_0.out (by simp)); replace HK := Aside0.mk (KeepBut.trans (by exact kp_) hk (.inl rfl)); replace HB := Aside0.mk (hb); replace HI0 := Aside0.mk (hi); (try clear hb hk hi)) | ((with_reducible refine gate_dst (N := 3) rfl ?_); refine box_event ?hg (N := 3) ?hd (cs := #[.int .i64 0, .int .i64 0]) (t := 26) ?hr ?_; (case hd => rfl); (case hg => rfl); (case hr => first | (go_simp; done) | (go_simp; rfl)); intro gb250 hg w7 hbox hb; replace HB := Aside0.mk (below_step (by exact IsS64.bw_) hb); have BK250 := Aside0.mk (hbox); have GW250 := Aside0.mk ((by rw [hg]; exact (keep_size (w := w) (g := g) (row := none) (by exact kp_)) : w.heap.size ≤ gb250)); have GE250 := Aside0.mk ((Nat.le_trans HW0.out (by rw [hg]; exact (keep_size (w := w) (g := g) (row := none) (by exact kp_)) : w.heap.size ≤ gb250) : w0.heap.size ≤ gb250)); replace HK := Aside0.mk (KeepBut.trans (by exact kp_) (KeepBut.of_below hb g none) (.inl rfl)); have NB245_250 := nl_ hg BK245; have NB250_245 := nr_ hg BK245; replace BK245 := bkb_ BK245 hb; have NB0_250 := Aside0.mk ((by rw [hg]; exact Nat.ne_of_lt (IsS64.lt (show IsS64 w0 _ g s0_0 t248 t249 from by exact IsS64.nw_)) : g ≠ gb250)); have NB250_0 := Aside0.mk ((by rw [hg]; exact Nat.ne_of_gt (IsS64.lt (show IsS64 w0 _ g s0_0 t248 t249 from by exact IsS64.nw_)) : gb250 ≠ g)); replace HI0 := Aside0.mk (IsS64.below (by exact IsS64.nw_) hb); clear hb hbox hg; have hnb8 := NB250_245.out; have hnc8 := NB245_250.out; have hnb9 := NB250_0.out; have hnc9 := NB0_250.out; obtain ⟨hcz10, hfz10⟩ := bcf_ BK250) | ((with_reducible refine gate_callee (f := 27) rfl ?_); refine goesC_ (some 7) Try.func27 #[.pointer (some ⟨g, 0, none⟩), .int .i64 8] ?_; (with_reducible refine (spec_l01Below.calls g s0_0 t248 t249 8 t251 t252 t253 w0 _ ?side1 ?side2 A3.out).mono ?_); (case side1 => exact IsS64.nw_); (case side2 => exact IsS64.bw_); rintro e w11 ⟨rfl, hi, hb, hk⟩; refine ⟨_, rfl, ?_⟩; replace BK245 := Aside0.mk (KeepBut.blk hk (g' := gb245) (o := .cells #[.int .i64 0, .int .i64 0] 26 (0, 0)) (bk_ BK245) NB245_0.out (by simp)); replace BK250 := Aside0.mk (KeepBut.blk hk (g' := gb250) (o := .cells #[.int .i64 t246, .int .i64 t247] 26 (0, 0)) (bk_ BK250) NB250_0.out (by simp)); replace HK := Aside0.mk (KeepBut.trans (by exact kp_) hk (.inl rfl)); replace HB := Aside0.mk (hb); replace HI0 := Aside0.mk (hi); (try clear hb hk hi)))
 (try simp only [Act.put, List.setIfInBounds_toArray, List.set_cons_zero, List.set_cons_succ])
 have H := HC4.out
 clear HC4
 by_cases c12 : t251 = 0
 ·rw [if_pos c12] at H
  have c12b0 : (t251 == 0) = true := beq_iff_eq.mpr c12
  have c12b1 : (t251 != 0) = false := bne_eq_false_iff_eq.mpr c12
  clear c12
  (first | rw [c12b0] | (simp only [i64_w, i32_w]; rw [c12b0]) | skip)
  obtain ⟨y254, hy254⟩ : ∃ y_ : List Int, y_ = (([(-1), 6, 5] : List Int)) := ⟨_, rfl⟩
  replace H : ((spec_l01PickInt.f s0_0 t252 t253 y254).bind fun bt257 => (some (bt257.1, t247, bt257.2.1, bt257.2.2))) = some (r1, r2, r3, r4) := rh_ hy254 H
  have Ny254 := Aside0.mk hy254
  clear hy254
  obtain ⟨⟨t257, t258, t259⟩, A13, H⟩ := bindE_ H
  (try dsimp only at H)
  simp only [Option.some.injEq, Prod.mk.injEq] at H
  obtain ⟨rfl, rfl, rfl, rfl⟩ := H
  go_wp2_with (first | ((with_reducible refine gate_dst (N := 11) rfl ?_); refine Kd.R_lit (Kd.int .i64) _ 3 ?hg (N := 11) ?hd (xs := ([(-1), 6, 5] : List Int)) (inner := [.int .i64 (-1), .int .i64 6, .int .i64 5]) (ok := fun _ => True) (okp := fun _ => True) ?hr ?hp (fun _ hk => hk) trivial (Below.refl _ _) (Nat.le_refl _) (by simp) ?_; (case hd => rfl); (case hg => rfl); (case hr => first | (go_simp; done) | (go_simp; rfl)); (case hp => exact (Reps.one (show Kd.M (Kd.int .i64) _ _ _ (-1) [.int .i64 (-1)] from rfl) (Reps.one (show Kd.M (Kd.int .i64) _ _ _ 6 [.int .i64 6] from rfl) (Reps.one (show Kd.M (Kd.int .i64) _ _ _ 5 [.int .i64 5] from rfl) (Reps.none _ _))))); intro v255 w14 ho15 hb hg_ hnew_; clear hg_ hnew_; (first | rw [← Ny254.out] at ho15 | (simp only [Int.reduceToNat] at ho15; rw [← Ny254.out] at ho15)); have HO256 := Aside0.mk (Kd.R_lower ho15 (keep_size (w := w) (g := g) (row := none) (by exact kp_))); replace BK245 := bkb_ BK245 hb; replace BK250 := bkb_ BK250 hb; replace HK := Aside0.mk (KeepBut.trans (by exact kp_) (KeepBut.of_below hb g none) (.inl rfl)); replace HB := Aside0.mk (below_step (by exact IsS64.bw_) hb); replace HI0 := Aside0.mk (IsS64.below (by exact IsS64.nw_) hb); clear hb ho15; obtain ⟨Ao16, co16, eo16⟩ := Kd.R_slice HO256.out; subst eo16) | ((with_reducible refine gate_callee (f := 59) rfl ?_); refine goesC_ (some 12) Try.func59 #[.pointer (some ⟨g, 0, none⟩), .slice Ao16 y254.length co16] ?_; (with_reducible refine (spec_l01PickInt.calls g s0_0 t252 t253 _ _ y254 t257 t258 t259 w0 _ ?side1 ?side2 ?side3 ?side4 ?side5 A13.out).mono ?_); (case side1 => exact IsS64.nw_); (case side2 => exact IsS64.bw_); (case side3 => repeat (first | exact (Kd.R_reads' HO256.out).2.2 | (with_reducible refine Kd.C_alloc ?_ _) | (with_reducible refine Kd.C_drewN ?_ _) | (with_reducible refine Kd.C_drew ?_))); (case side4 => exact (Kd.R_reads' HO256.out).2.1); (case side5 => exact far_slice (IsS64.own_ne HI0.out HO256.out (by decide))); rintro e w17 ⟨rfl, hi, hb, hk⟩; refine ⟨_, rfl, ?_⟩; replace BK245 := Aside0.mk (KeepBut.blk hk (g' := gb245) (o := .cells #[.int .i64 0, .int .i64 0] 26 (0, 0)) (bk_ BK245) NB245_0.out (by simp)); replace BK250 := Aside0.mk (KeepBut.blk hk (g' := gb250) (o := .cells #[.int .i64 t246, .int .i64 t247] 26 (0, 0)) (bk_ BK250) NB250_0.out (by simp)); replace HO256 := Aside0.mk (Kd.R_mono (Kd.R_keep (IsS64.apart (show IsS64 w0 _ g s0_0 t252 t253 from by exact IsS64.nw_) (rr_ HO256) (by decide)) hk (fun _ h => h.2)) (fun _ h => h.1)); replace HK := Aside0.mk (KeepBut.trans (by exact kp_) hk (.inl rfl)); replace HB := Aside0.mk (hb); replace HI0 := Aside0.mk (hi); (try clear hb hk hi); have hnb18 := NB250_245.out; have hnc18 := NB245_250.out; have hnb19 := NB250_0.out; have hnc19 := NB0_250.out; obtain ⟨hcz20, hfz20⟩ := bcf_ BK250; have hnb21 := NB245_0.out; have hnc21 := NB0_245.out; obtain ⟨hcz22, hfz22⟩ := bcf_ BK245))
  refine bodyPost_ret (results_cell_row rfl _ _ gb245 26 #[.int .i64 t257, .int .i64 t247] (0, 0) _ rfl (bk_ BK245) Try.underlying26 rfl (by kernel_rfl)) rfl ?_
  exact ⟨eq_, by exact IsS64.nw_, by exact IsS64.bw_, by exact kp_⟩
 ·rw [if_neg c12] at H
  have c12b0 : (t251 == 0) = false := beq_eq_false_iff_ne.mpr c12
  have c12b1 : (t251 != 0) = true := bne_iff_ne.mpr c12
  (first | rw [c12b0] | (simp only [i64_w, i32_w]; rw [c12b0]) | skip)
  by_cases c23 : t251 = 1
  ·rw [if_pos c23] at H
   have c23b0 : (t251 == 1) = true := beq_iff_eq.mpr c23
   have c23b1 : (t251 != 1) = false := bne_eq_false_iff_eq.mpr c23
   clear c23
   obtain ⟨y260, hy260⟩ : ∃ y_ : List Int, y_ = (([(-1), 4, 3] : List Int)) := ⟨_, rfl⟩
   replace H : ((spec_l01PickInt.f s0_0 t252 t253 y260).bind fun bt263 => (some (t246, bt263.1, bt263.2.1, bt263.2.2))) = some (r1, r2, r3, r4) := rh_ hy260 H
   have Ny260 := Aside0.mk hy260
   clear hy260
   obtain ⟨⟨t263, t264, t265⟩, A24, H⟩ := bindE_ H
   (try dsimp only at H)
   simp only [Option.some.injEq, Prod.mk.injEq] at H
   obtain ⟨rfl, rfl, rfl, rfl⟩ := H
   go_wp2_with (first | ((with_reducible refine gate_dst (N := 17) rfl ?_); refine Kd.R_lit (Kd.int .i64) _ 3 ?hg (N := 17) ?hd (xs := ([(-1), 4, 3] : List Int)) (inner := [.int .i64 (-1), .int .i64 4, .int .i64 3]) (ok := fun _ => True) (okp := fun _ => True) ?hr ?hp (fun _ hk => hk) trivial (Below.refl _ _) (Nat.le_refl _) (by simp) ?_; (case hd => rfl); (case hg => rfl); (case hr => first | (go_simp; done) | (go_simp; rfl)); (case hp => exact (Reps.one (show Kd.M (Kd.int .i64) _ _ _ (-1) [.int .i64 (-1)] from rfl) (Reps.one (show Kd.M (Kd.int .i64) _ _ _ 4 [.int .i64 4] from rfl) (Reps.one (show Kd.M (Kd.int .i64) _ _ _ 3 [.int .i64 3] from rfl) (Reps.none _ _))))); intro v261 w25 ho26 hb hg_ hnew_; clear hg_ hnew_; (first | rw [← Ny260.out] at ho26 | (simp only [Int.reduceToNat] at ho26; rw [← Ny260.out] at ho26)); have HO262 := Aside0.mk (Kd.R_lower ho26 (keep_size (w := w) (g := g) (row := none) (by exact kp_))); replace BK245 := bkb_ BK245 hb; replace BK250 := bkb_ BK250 hb; replace HK := Aside0.mk (KeepBut.trans (by exact kp_) (KeepBut.of_below hb g none) (.inl rfl)); replace HB := Aside0.mk (below_step (by exact IsS64.bw_) hb); replace HI0 := Aside0.mk (IsS64.below (by exact IsS64.nw_) hb); clear hb ho26; obtain ⟨Ao27, co27, eo27⟩ := Kd.R_slice HO262.out; subst eo27) | ((with_reducible refine gate_callee (f := 59) rfl ?_); refine goesC_ (some 18) Try.func59 #[.pointer (some ⟨g, 0, none⟩), .slice Ao27 y260.length co27] ?_; (with_reducible refine (spec_l01PickInt.calls g s0_0 t252 t253 _ _ y260 t263 t264 t265 w0 _ ?side1 ?side2 ?side3 ?side4 ?side5 A24.out).mono ?_); (case side1 => exact IsS64.nw_); (case side2 => exact IsS64.bw_); (case side3 => repeat (first | exact (Kd.R_reads' HO262.out).2.2 | (with_reducible refine Kd.C_alloc ?_ _) | (with_reducible refine Kd.C_drewN ?_ _) | (with_reducible refine Kd.C_drew ?_))); (case side4 => exact (Kd.R_reads' HO262.out).2.1); (case side5 => exact far_slice (IsS64.own_ne HI0.out HO262.out (by decide))); rintro e w28 ⟨rfl, hi, hb, hk⟩; refine ⟨_, rfl, ?_⟩; replace BK245 := Aside0.mk (KeepBut.blk hk (g' := gb245) (o := .cells #[.int .i64 0, .int .i64 0] 26 (0, 0)) (bk_ BK245) NB245_0.out (by simp)); replace BK250 := Aside0.mk (KeepBut.blk hk (g' := gb250) (o := .cells #[.int .i64 t246, .int .i64 t247] 26 (0, 0)) (bk_ BK250) NB250_0.out (by simp)); replace HO262 := Aside0.mk (Kd.R_mono (Kd.R_keep (IsS64.apart (show IsS64 w0 _ g s0_0 t252 t253 from by exact IsS64.nw_) (rr_ HO262) (by decide)) hk (fun _ h => h.2)) (fun _ h => h.1)); replace HK := Aside0.mk (KeepBut.trans (by exact kp_) hk (.inl rfl)); replace HB := Aside0.mk (hb); replace HI0 := Aside0.mk (hi); (try clear hb hk hi); have hnb29 := NB250_245.out; have hnc29 := NB245_250.out; have hnb30 := NB250_0.out; have hnc30 := NB0_250.out; obtain ⟨hcz31, hfz31⟩ := bcf_ BK250; have hnb32 := NB245_0.out; have hnc32 := NB0_245.out; obtain ⟨hcz33, hfz33⟩ := bcf_ BK245))
   refine bodyPost_ret (results_cell_row rfl _ _ gb245 26 #[.int .i64 t246, .int .i64 t263] (0, 0) _ rfl (bk_ BK245) Try.underlying26 rfl (by kernel_rfl)) rfl ?_
   exact ⟨eq_, by exact IsS64.nw_, by exact IsS64.bw_, by exact kp_⟩
  ·rw [if_neg c23] at H
   have c23b0 : (t251 == 1) = false := beq_eq_false_iff_ne.mpr c23
   have c23b1 : (t251 != 1) = true := bne_iff_ne.mpr c23
   simp only [Option.some.injEq, Prod.mk.injEq] at H
   obtain ⟨rfl, rfl, rfl, rfl⟩ := H
   have hnb34 := NB250_245.out
   have hnc34 := NB245_250.out
   have hnb35 := NB250_0.out
   have hnc35 := NB0_250.out
   have hcz36 := blk_cell BK250.out
   have hfz36 := blk_frozen BK250.out
   have hnb37 := NB245_0.out
   have hnc37 := NB0_245.out
   have hcz38 := blk_cell BK245.out
   have hfz38 := blk_frozen BK245.out
   go_wp2
   refine bodyPost_ret (results_cell_row rfl _ _ gb245 26 #[.int .i64 t246, .int .i64 t247] (0, 0) _ rfl (bk_ BK245) Try.underlying26 rfl (by kernel_rfl)) rfl ?_
   exact ⟨eq_, by exact IsS64.nw_, by exact IsS64.bw_, by exact kp_⟩
end Go.Proofs.Ytamhfnedknjjbaa.PB
