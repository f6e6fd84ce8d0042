import Derived.Test.YtcbhmcpdnokbiaaKLPAx4
-- printed by wip/tools
namespace Go.Proofs.Ytcbhmcpdnokbiaa.PA
open Go.RowKit Go.Proofs.YtcbhmcpdnokbiaaW.PrintWords Go.Proofs.YtcbhmcpdnokbiaaW.PrintLast Go.Proofs.YtcbhmcpdnokbiaaW.PrintMore
attribute [local go_sem] max2_int min2_int max_two min_two max_three min_three max_four min_four
set_option linter.unusedVariables false
set_option linter.unusedSimpArgs false
def spec_l05Cred.f (s0_0 : List Int) (s0_1 : Int) (s0_2 : Int) : Option (Int × Int × Int × Int × Int × Int × Int × Int × Int × Int × Int × Int) := (spec_l01PickInt.f s0_0 s0_1 s0_2 (([1, 1, 2, 3, 4] : List Int))).bind fun bt132 => ((spec_l05Role.f s0_0 bt132.2.1 bt132.2.2).bind fun bt135 => ((spec_l01PickInt.f s0_0 bt135.2.2.1 bt135.2.2.2 (([5, 50, 9999, 2] : List Int))).bind fun bt142 => ((spec_l01Below.f s0_0 bt142.2.1 bt142.2.2 2).bind fun bt145 => (if bt132.1 = 1 then ((spec_l01Below.f s0_0 bt145.2.1 bt145.2.2 6).bind fun bt149 => (some (bt132.1, bt135.1, bt135.2.1, bt149.1, 0, 0, 0, 0, bt142.1, bt145.1, bt149.2.1, bt149.2.2))) else (if bt132.1 = 2 then ((spec_l05Role.f s0_0 bt145.2.1 bt145.2.2).bind fun bt152 => (some (bt132.1, bt135.1, bt135.2.1, 0, bt152.1, bt152.2.1, 0, 0, bt142.1, bt145.1, bt152.2.2.1, bt152.2.2.2))) else (if bt132.1 = 3 then ((spec_l05Role.f s0_0 bt145.2.1 bt145.2.2).bind fun bt156 => ((spec_l01Below.f s0_0 bt156.2.2.1 bt156.2.2.2 2).bind fun bt160 => (some (bt132.1, bt135.1, bt135.2.1, 0, bt156.1, bt156.2.1, 0, bt160.1, bt142.1, bt145.1, bt160.2.1, bt160.2.2)))) else (if bt132.1 = 4 then ((spec_l05Role.f s0_0 bt145.2.1 bt145.2.2).bind fun bt163 => ((spec_l05Role.f s0_0 bt163.2.2.1 bt163.2.2.2).bind fun bt167 => (some (bt132.1, bt135.1, bt135.2.1, 0, bt163.1, bt163.2.1, bt167.1, bt167.2.1, bt142.1, bt145.1, bt167.2.2.1, bt167.2.2.2)))) else (some (bt132.1, bt135.1, bt135.2.1, 0, 0, 0, 0, 0, bt142.1, bt145.1, bt145.2.1, bt145.2.2)))))))))
set_option maxHeartbeats 8000000 in
set_option maxRecDepth 100000 in
theorem spec_l05Cred.calls (g : Nat) (s0_0 : List Int) (s0_1 : Int) (s0_2 : Int) (r1 : Int) (r2 : Int) (r3 : Int) (r4 : Int) (r5 : Int) (r6 : Int) (r7 : Int) (r8 : Int) (r9 : Int) (r10 : Int) (r11 : Int) (r12 : Int) (w0 w : World) (hI : IsS69 w0 w g s0_0 s0_1 s0_2) (hB : Below w0.heap.size w0 w) (h : spec_l05Cred.f s0_0 s0_1 s0_2 = some (r1, r2, r3, r4, r5, r6, r7, r8, r9, r10, r11, r12)) :
  Calls Try.prog 34 #[.pointer (some ⟨g, 0, none⟩)] w fun e w' => e = .returned (.agg #[.int .i64 r1, .int .i64 r2, .int .i64 r3, .int .i64 r4, .int .i64 r5, .int .i64 r6, .int .i64 r7, .int .i64 r8, .int .i64 r9, .int .i64 r10]) ∧ IsS69 w0 w' g s0_0 r11 r12 ∧ Below w0.heap.size w0 w' ∧ KeepBut w w' g none := by
 have hu46 := Try.underlying46
 have hu27 := Try.underlying27
 have HI0 := aa_ hI
 have HK := aa_ (KeepBut.refl w g none)
 have HL := aa_ hB.size
 clear hI
 have HW0 := aa_ hB.size
 have HB := aa_ hB
 clear hB
 have H : ((spec_l01PickInt.f s0_0 s0_1 s0_2 (([1, 1, 2, 3, 4] : List Int))).bind fun bt132 => ((spec_l05Role.f s0_0 bt132.2.1 bt132.2.2).bind fun bt135 => ((spec_l01PickInt.f s0_0 bt135.2.2.1 bt135.2.2.2 (([5, 50, 9999, 2] : List Int))).bind fun bt142 => ((spec_l01Below.f s0_0 bt142.2.1 bt142.2.2 2).bind fun bt145 => (if bt132.1 = 1 then ((spec_l01Below.f s0_0 bt145.2.1 bt145.2.2 6).bind fun bt149 => (some (bt132.1, bt135.1, bt135.2.1, bt149.1, 0, 0, 0, 0, bt142.1, bt145.1, bt149.2.1, bt149.2.2))) else (if bt132.1 = 2 then ((spec_l05Role.f s0_0 bt145.2.1 bt145.2.2).bind fun bt152 => (some (bt132.1, bt135.1, bt135.2.1, 0, bt152.1, bt152.2.1, 0, 0, bt142.1, bt145.1, bt152.2.2.1, bt152.2.2.2))) else (if bt132.1 = 3 then ((spec_l05Role.f s0_0 bt145.2.1 bt145.2.2).bind fun bt156 => ((spec_l01Below.f s0_0 bt156.2.2.1 bt156.2.2.2 2).bind fun bt160 => (some (bt132.1, bt135.1, bt135.2.1, 0, bt156.1, bt156.2.1, 0, bt160.1, bt142.1, bt145.1, bt160.2.1, bt160.2.2)))) else (if bt132.1 = 4 then ((spec_l05Role.f s0_0 bt145.2.1 bt145.2.2).bind fun bt163 => ((spec_l05Role.f s0_0 bt163.2.2.1 bt163.2.2.2).bind fun bt167 => (some (bt132.1, bt135.1, bt135.2.1, 0, bt163.1, bt163.2.1, bt167.1, bt167.2.1, bt142.1, bt145.1, bt167.2.2.1, bt167.2.2.2)))) else (some (bt132.1, bt135.1, bt135.2.1, 0, 0, 0, 0, 0, bt142.1, bt145.1, bt145.2.1, bt145.2.2)))))))))) = some (r1, r2, r3, r4, r5, r6, r7, r8, r9, r10, r11, r12) := h
 clear h
 obtain ⟨y129, hy129⟩ : ∃ y_ : List Int, y_ = (([1, 1, 2, 3, 4] : List Int)) := ⟨_, rfl⟩
 replace H : ((spec_l01PickInt.f s0_0 s0_1 s0_2 y129).bind fun bt132 => ((spec_l05Role.f s0_0 bt132.2.1 bt132.2.2).bind fun bt135 => ((spec_l01PickInt.f s0_0 bt135.2.2.1 bt135.2.2.2 (([5, 50, 9999, 2] : List Int))).bind fun bt142 => ((spec_l01Below.f s0_0 bt142.2.1 bt142.2.2 2).bind fun bt145 => (if bt132.1 = 1 then ((spec_l01Below.f s0_0 bt145.2.1 bt145.2.2 6).bind fun bt149 => (some (bt132.1, bt135.1, bt135.2.1, bt149.1, 0, 0, 0, 0, bt142.1, bt145.1, bt149.2.1, bt149.2.2))) else (if bt132.1 = 2 then ((spec_l05Role.f s0_0 bt145.2.1 bt145.2.2).bind fun bt152 => (some (bt132.1, bt135.1, bt135.2.1, 0, bt152.1, bt152.2.1, 0, 0, bt142.1, bt145.1, bt152.2.2.1, bt152.2.2.2))) else (if bt132.1 = 3 then ((spec_l05Role.f s0_0 bt145.2.1 bt145.2.2).bind fun bt156 => ((spec_l01Below.f s0_0 bt156.2.2.1 bt156.2.2.2 2).bind fun bt160 => (some (bt132.1, bt135.1, bt135.2.1, 0, bt156.1, bt156.2.1, 0, bt160.1, bt142.1, bt145.1, bt160.2.1, bt160.2.2)))) else (if bt132.1 = 4 then ((spec_l05Role.f s0_0 bt145.2.1 bt145.2.2).bind fun bt163 => ((spec_l05Role.f s0_0 bt163.2.2.1 bt163.2.2.2).bind fun bt167 => (some (bt132.1, bt135.1, bt135.2.1, 0, bt163.1, bt163.2.1, bt167.1, bt167.2.1, bt142.1, bt145.1, bt167.2.2.1, bt167.2.2.2)))) else (some (bt132.1, bt135.1, bt135.2.1, 0, 0, 0, 0, 0, bt142.1, bt145.1, bt145.2.1, bt145.2.2)))))))))) = some (r1, r2, r3, r4, r5, r6, r7, r8, r9, r10, r11, r12) := rh_ hy129 H
 have Ny129 := aa_ hy129
 clear hy129
 obtain ⟨⟨t132, t133, t134⟩, A2, H⟩ := bindE_ H
 (try dsimp only at H)
 obtain ⟨⟨t135, t136, t137, t138⟩, A3, H⟩ := bindE_ H
 (try dsimp only at H)
 obtain ⟨y139, hy139⟩ : ∃ y_ : List Int, y_ = (([5, 50, 9999, 2] : List Int)) := ⟨_, rfl⟩
 replace H : ((spec_l01PickInt.f s0_0 t137 t138 y139).bind fun bt142 => ((spec_l01Below.f s0_0 bt142.2.1 bt142.2.2 2).bind fun bt145 => (if t132 = 1 then ((spec_l01Below.f s0_0 bt145.2.1 bt145.2.2 6).bind fun bt149 => (some (t132, t135, t136, bt149.1, 0, 0, 0, 0, bt142.1, bt145.1, bt149.2.1, bt149.2.2))) else (if t132 = 2 then ((spec_l05Role.f s0_0 bt145.2.1 bt145.2.2).bind fun bt152 => (some (t132, t135, t136, 0, bt152.1, bt152.2.1, 0, 0, bt142.1, bt145.1, bt152.2.2.1, bt152.2.2.2))) else (if t132 = 3 then ((spec_l05Role.f s0_0 bt145.2.1 bt145.2.2).bind fun bt156 => ((spec_l01Below.f s0_0 bt156.2.2.1 bt156.2.2.2 2).bind fun bt160 => (some (t132, t135, t136, 0, bt156.1, bt156.2.1, 0, bt160.1, bt142.1, bt145.1, bt160.2.1, bt160.2.2)))) else (if t132 = 4 then ((spec_l05Role.f s0_0 bt145.2.1 bt145.2.2).bind fun bt163 => ((spec_l05Role.f s0_0 bt163.2.2.1 bt163.2.2.2).bind fun bt167 => (some (t132, t135, t136, 0, bt163.1, bt163.2.1, bt167.1, bt167.2.1, bt142.1, bt145.1, bt167.2.2.1, bt167.2.2.2)))) else (some (t132, t135, t136, 0, 0, 0, 0, 0, bt142.1, bt145.1, bt145.2.1, bt145.2.2)))))))) = some (r1, r2, r3, r4, r5, r6, r7, r8, r9, r10, r11, r12) := rh_ hy139 H
 have Ny139 := aa_ hy139
 clear hy139
 obtain ⟨⟨t142, t143, t144⟩, A4, H⟩ := bindE_ H
 (try dsimp only at H)
 obtain ⟨⟨t145, t146, t147⟩, A5, H⟩ := bindE_ H
 (try dsimp only at H)
 have HC6 := aa_ H
 clear H
 go_enter Try.func34, Try.ntmps34
 go_upto_if 17 with (first | ((with_reducible refine gD_ 2 rfl ?_); refine bx_ (N := 2) (cs := #[.int .i64 0, .int .i64 0, .int .i64 0, .int .i64 0, .int .i64 0, .int .i64 0, .int .i64 0, .int .i64 0, .int .i64 0, .int .i64 0]) (t := 46) ?_; intro gb128 hg w7 hbox hb; replace HB := aa_ (below_step (by exact IsS69.bw_) hb); have BK128 := aa_ (hbox); have GW128 := aa_ ((by rw [hg]; exact (keep_size (w := w) (g := g) (row := none) (by exact kp_)) : w.heap.size ≤ gb128)); have GE128 := aa_ ((Nat.le_trans HW0.out (by rw [hg]; exact (keep_size (w := w) (g := g) (row := none) (by exact kp_)) : w.heap.size ≤ gb128) : w0.heap.size ≤ gb128)); replace HK := aa_ (KeepBut.trans (by exact kp_) (KeepBut.of_below hb g none) (.inl rfl)); have NB0_128 := aa_ ((by rw [hg]; exact Nat.ne_of_lt (IsS69.lt (show IsS69 w0 _ g s0_0 s0_1 s0_2 from by exact IsS69.nw_)) : g ≠ gb128)); have NB128_0 := aa_ ((by rw [hg]; exact Nat.ne_of_gt (IsS69.lt (show IsS69 w0 _ g s0_0 s0_1 s0_2 from by exact IsS69.nw_)) : gb128 ≠ g)); replace HI0 := aa_ (IsS69.below (by exact IsS69.nw_) hb); clear hb hbox hg) | ((with_reducible refine gD_ 5 rfl ?_); refine Kd.R_lit (Kd.int .i64) _ 3 ?hg (N := 5) ?hd (xs := ([1, 1, 2, 3, 4] : List Int)) (inner := [.int .i64 1, .int .i64 1, .int .i64 2, .int .i64 3, .int .i64 4]) (ok := fun _ => True) (okp := fun _ => True) ?hr ?hp (fun _ hk => hk) trivial (Below.refl _ _) (Nat.le_refl _) (by simp) ?_; (case hd => rfl); (case hg => rfl); (case hr => first | (go_simp; done) | (go_simp; rfl)); (case hp => exact (Reps.one (show Kd.M (Kd.int .i64) _ _ _ 1 [.int .i64 1] from rfl) (Reps.one (show Kd.M (Kd.int .i64) _ _ _ 1 [.int .i64 1] from rfl) (Reps.one (show Kd.M (Kd.int .i64) _ _ _ 2 [.int .i64 2] from rfl) (Reps.one (show Kd.M (Kd.int .i64) _ _ _ 3 [.int .i64 3] from rfl) (Reps.one (show Kd.M (Kd.int .i64) _ _ _ 4 [.int .i64 4] from rfl) (Reps.none _ _))))))); intro v130 w8 ho9 hb hg_ hnew_; clear hg_ hnew_; (first | rw [← Ny129.out] at ho9 | (simp only [Int.reduceToNat] at ho9; rw [← Ny129.out] at ho9)); have HO131 := aa_ (Kd.R_lower ho9 (keep_size (w := w) (g := g) (row := none) (by exact kp_))); replace BK128 := bkb_ BK128 hb; replace HK := aa_ (KeepBut.trans (by exact kp_) (KeepBut.of_below hb g none) (.inl rfl)); replace HB := aa_ (below_step (by exact IsS69.bw_) hb); replace HI0 := aa_ (IsS69.below (by exact IsS69.nw_) hb); clear hb ho9; obtain ⟨Ao10, co10, eo10⟩ := Kd.R_slice HO131.out; subst eo10) | ((with_reducible refine gC_ 43 rfl ?_); refine goesC_ (some 6) Try.func43 #[.pointer (some ⟨g, 0, none⟩), .slice Ao10 y129.length co10] ?_; (with_reducible refine (spec_l01PickInt.calls g s0_0 s0_1 s0_2 _ _ y129 t132 t133 t134 w0 _ ?side1 ?side2 ?side3 ?side4 ?side5 A2.out).mono ?_); (case side1 => exact IsS69.nw_); (case side2 => exact IsS69.bw_); (case side3 => repeat (first | exact (Kd.R_reads' HO131.out).2.2 | (with_reducible refine Kd.C_alloc ?_ _) | (with_reducible refine Kd.C_drewN ?_ _) | (with_reducible refine Kd.C_drew ?_))); (case side4 => exact (Kd.R_reads' HO131.out).2.1); (case side5 => exact far_slice (IsS69.own_ne HI0.out HO131.out (by decide))); rintro e w11 ⟨rfl, hi, hb, hk⟩; refine ⟨_, rfl, ?_⟩; replace BK128 := aa_ (KeepBut.blk hk (g' := gb128) (o := .cells #[.int .i64 0, .int .i64 0, .int .i64 0, .int .i64 0, .int .i64 0, .int .i64 0, .int .i64 0, .int .i64 0, .int .i64 0, .int .i64 0] 46 (0, 0)) (bk_ BK128) NB128_0.out (by simp)); replace HO131 := aa_ (Kd.R_mono (Kd.R_keep (IsS69.apart (show IsS69 w0 _ g s0_0 s0_1 s0_2 from by exact IsS69.nw_) (rr_ HO131) (by decide)) hk (fun _ h => h.2)) (fun _ h => h.1)); replace HK := aa_ (KeepBut.trans (by exact kp_) hk (.inl rfl)); replace HB := aa_ (hb); replace HI0 := aa_ (hi); (try clear hb hk hi)) | ((with_reducible refine gC_ 44 rfl ?_); refine goesC_ (some 8) Try.func44 #[.pointer (some ⟨g, 0, none⟩)] ?_; (with_reducible refine (spec_l05Role.calls g s0_0 t133 t134 t135 t136 t137 t138 w0 _ ?side1 ?side2 A3.out).mono ?_); (case side1 => exact IsS69.nw_); (case side2 => exact IsS69.bw_); rintro e w12 ⟨rfl, hi, hb, hk⟩; refine ⟨_, rfl, ?_⟩; replace BK128 := aa_ (KeepBut.blk hk (g' := gb128) (o := .cells #[.int .i64 0, .int .i64 0, .int .i64 0, .int .i64 0, .int .i64 0, .int .i64 0, .int .i64 0, .int .i64 0, .int .i64 0, .int .i64 0] 46 (0, 0)) (bk_ BK128) NB128_0.out (by simp)); replace HO131 := aa_ (Kd.R_mono (Kd.R_keep (IsS69.apart (show IsS69 w0 _ g s0_0 t133 t134 from by exact IsS69.nw_) (rr_ HO131) (by decide)) hk (fun _ h => h.2)) (fun _ h => h.1)); replace HK := aa_ (KeepBut.trans (by exact kp_) hk (.inl rfl)); replace HB := aa_ (hb); replace HI0 := aa_ (hi); (try clear hb hk hi)) | ((with_reducible refine gD_ 10 rfl ?_); refine Kd.R_lit (Kd.int .i64) _ 3 ?hg (N := 10) ?hd (xs := ([5, 50, 9999, 2] : List Int)) (inner := [.int .i64 5, .int .i64 50, .int .i64 9999, .int .i64 2]) (ok := fun _ => True) (okp := fun _ => True) ?hr ?hp (fun _ hk => hk) trivial (Below.refl _ _) (Nat.le_refl _) (by simp) ?_; (case hd => rfl); (case hg => rfl); (case hr => first | (go_simp; done) | (go_simp; rfl)); (case hp => exact (Reps.one (show Kd.M (Kd.int .i64) _ _ _ 5 [.int .i64 5] from rfl) (Reps.one (show Kd.M (Kd.int .i64) _ _ _ 50 [.int .i64 50] from rfl) (Reps.one (show Kd.M (Kd.int .i64) _ _ _ 9999 [.int .i64 9999] from rfl) (Reps.one (show Kd.M (Kd.int .i64) _ _ _ 2 [.int .i64 2] from rfl) (Reps.none _ _)))))); intro v140 w13 ho14 hb hg_ hnew_; clear hg_ hnew_; (first | rw [← Ny139.out] at ho14 | (simp only [Int.reduceToNat] at ho14; rw [← Ny139.out] at ho14)); have HO141 := aa_ (Kd.R_lower (Kd.R_new' ho14 (Kd.R_lt (rr_ HO131))) (keep_size (w := w) (g := g) (row := none) (by exact kp_))); replace HO131 := aa_ (Kd.R_elder' (rr_ HO131) (Kd.R_base ho14) hb); replace BK128 := bkb_ BK128 hb; replace HK := aa_ (KeepBut.trans (by exact kp_) (KeepBut.of_below hb g none) (.inl rfl)); replace HB := aa_ (below_step (by exact IsS69.bw_) hb); replace HI0 := aa_ (IsS69.below (by exact IsS69.nw_) hb); clear hb ho14; obtain ⟨Ao15, co15, eo15⟩ := Kd.R_slice HO141.out; subst eo15) | ((with_reducible refine gC_ 43 rfl ?_); refine goesC_ (some 11) Try.func43 #[.pointer (some ⟨g, 0, none⟩), .slice Ao15 y139.length co15] ?_; (with_reducible refine (spec_l01PickInt.calls g s0_0 t137 t138 _ _ y139 t142 t143 t144 w0 _ ?side1 ?side2 ?side3 ?side4 ?side5 A4.out).mono ?_); (case side1 => exact IsS69.nw_); (case side2 => exact IsS69.bw_); (case side3 => repeat (first | exact (Kd.R_reads' HO141.out).2.2 | (with_reducible refine Kd.C_alloc ?_ _) | (with_reducible refine Kd.C_drewN ?_ _) | (with_reducible refine Kd.C_drew ?_))); (case side4 => exact (Kd.R_reads' HO141.out).2.1); (case side5 => exact far_slice (IsS69.own_ne HI0.out HO141.out (by decide))); rintro e w16 ⟨rfl, hi, hb, hk⟩; refine ⟨_, rfl, ?_⟩; replace BK128 := aa_ (KeepBut.blk hk (g' := gb128) (o := .cells #[.int .i64 0, .int .i64 0, .int .i64 0, .int .i64 0, .int .i64 0, .int .i64 0, .int .i64 0, .int .i64 0, .int .i64 0, .int .i64 0] 46 (0, 0)) (bk_ BK128) NB128_0.out (by simp)); replace HO131 := aa_ (Kd.R_mono (Kd.R_keep (IsS69.apart (show IsS69 w0 _ g s0_0 t137 t138 from by exact IsS69.nw_) (rr_ HO131) (by decide)) hk (fun _ h => h.2)) (fun _ h => h.1)); replace HO141 := aa_ (Kd.R_mono (Kd.R_keep (IsS69.apart (show IsS69 w0 _ g s0_0 t137 t138 from by exact IsS69.nw_) (rr_ HO141) (by decide)) hk (fun _ h => h.2)) (fun _ h => h.1)); replace HK := aa_ (KeepBut.trans (by exact kp_) hk (.inl rfl)); replace HB := aa_ (hb); replace HI0 := aa_ (hi); (try clear hb hk hi)) | ((with_reducible refine gC_ 21 rfl ?_); refine goesC_ (some 13) Try.func21 #[.pointer (some ⟨g, 0, none⟩), .int .i64 2] ?_; (with_reducible refine (spec_l01Below.calls g s0_0 t143 t144 2 t145 t146 t147 w0 _ ?side1 ?side2 A5.out).mono ?_); (case side1 => exact IsS69.nw_); (case side2 => exact IsS69.bw_); rintro e w17 ⟨rfl, hi, hb, hk⟩; refine ⟨_, rfl, ?_⟩; replace BK128 := aa_ (KeepBut.blk hk (g' := gb128) (o := .cells #[.int .i64 0, .int .i64 0, .int .i64 0, .int .i64 0, .int .i64 0, .int .i64 0, .int .i64 0, .int .i64 0, .int .i64 0, .int .i64 0] 46 (0, 0)) (bk_ BK128) NB128_0.out (by simp)); replace HO131 := aa_ (Kd.R_mono (Kd.R_keep (IsS69.apart (show IsS69 w0 _ g s0_0 t143 t144 from by exact IsS69.nw_) (rr_ HO131) (by decide)) hk (fun _ h => h.2)) (fun _ h => h.1)); replace HO141 := aa_ (Kd.R_mono (Kd.R_keep (IsS69.apart (show IsS69 w0 _ g s0_0 t143 t144 from by exact IsS69.nw_) (rr_ HO141) (by decide)) hk (fun _ h => h.2)) (fun _ h => h.1)); replace HK := aa_ (KeepBut.trans (by exact kp_) hk (.inl rfl)); replace HB := aa_ (hb); replace HI0 := aa_ (hi); (try clear hb hk hi)) | ((with_reducible refine gD_ 3 rfl ?_); refine bx_ (N := 3) (cs := #[.int .i64 0, .int .i64 0, .int .i64 0, .int .i64 0, .int .i64 0, .int .i64 0, .int .i64 0, .int .i64 0, .int .i64 0, .int .i64 0]) (t := 46) ?_; intro gb148 hg w18 hbox hb; replace HO131 := hob_ HO131 hb; replace HO141 := hob_ HO141 hb; replace HB := aa_ (below_step (by exact IsS69.bw_) hb); have BK148 := aa_ (hbox); have GW148 := aa_ ((by rw [hg]; exact (keep_size (w := w) (g := g) (row := none) (by exact kp_)) : w.heap.size ≤ gb148)); have GE148 := aa_ ((Nat.le_trans HW0.out (by rw [hg]; exact (keep_size (w := w) (g := g) (row := none) (by exact kp_)) : w.heap.size ≤ gb148) : w0.heap.size ≤ gb148)); replace HK := aa_ (KeepBut.trans (by exact kp_) (KeepBut.of_below hb g none) (.inl rfl)); have NB128_148 := nl_ hg BK128; have NB148_128 := nr_ hg BK128; replace BK128 := bkb_ BK128 hb; have NB0_148 := aa_ ((by rw [hg]; exact Nat.ne_of_lt (IsS69.lt (show IsS69 w0 _ g s0_0 t146 t147 from by exact IsS69.nw_)) : g ≠ gb148)); have NB148_0 := aa_ ((by rw [hg]; exact Nat.ne_of_gt (IsS69.lt (show IsS69 w0 _ g s0_0 t146 t147 from by exact IsS69.nw_)) : gb148 ≠ g)); replace HI0 := aa_ (IsS69.below (by exact IsS69.nw_) hb); clear hb hbox hg; have hnb19 := NB148_128.out; have hnc19 := NB128_148.out; have hnb20 := NB148_0.out; have hnc20 := NB0_148.out; obtain ⟨hcz21, hfz21⟩ := bcf_ BK148))
 have n0_ : Aside0 (Kd.R (Kd.int .i64) 3 ((((((((((w18.setCell ⟨gb148, 0, none⟩ (.int .i64 t132)).setCell ⟨gb148, 1, none⟩ (.int .i64 t135)).setCell ⟨gb148, 2, none⟩ (.int .i64 t136)).setCell ⟨gb148, 3, none⟩ (.int .i64 0)).setCell ⟨gb148, 4, none⟩ (.int .i64 0)).setCell ⟨gb148, 5, none⟩ (.int .i64 0)).setCell ⟨gb148, 6, none⟩ (.int .i64 0)).setCell ⟨gb148, 7, none⟩ (.int .i64 0)).setCell ⟨gb148, 8, none⟩ (.int .i64 t142)).setCell ⟨gb148, 9, none⟩ (.int .i64 t145)) w.heap.size (fun k_ => some k_ ≠ (.slice Ao15 y139.length co15 : Value).ownBlock) (.slice Ao10 y129.length co10) y129) := ⟨by (with_reducible repeat (first | apply Kd.R_alloc | apply Kd.R_drewN | apply Kd.R_drew)); exact Kd.R_mono (fr10_ (Kd.R_types HO131.out BK148.out (by decide)) (fun _ hk => hk.2)) (fun _ hk => hk.1.2)⟩
 have n1_ : Aside0 (Kd.R (Kd.int .i64) 3 ((((((((((w18.setCell ⟨gb148, 0, none⟩ (.int .i64 t132)).setCell ⟨gb148, 1, none⟩ (.int .i64 t135)).setCell ⟨gb148, 2, none⟩ (.int .i64 t136)).setCell ⟨gb148, 3, none⟩ (.int .i64 0)).setCell ⟨gb148, 4, none⟩ (.int .i64 0)).setCell ⟨gb148, 5, none⟩ (.int .i64 0)).setCell ⟨gb148, 6, none⟩ (.int .i64 0)).setCell ⟨gb148, 7, none⟩ (.int .i64 0)).setCell ⟨gb148, 8, none⟩ (.int .i64 t142)).setCell ⟨gb148, 9, none⟩ (.int .i64 t145)) w.heap.size (fun k_ => some k_ ≠ (.slice Ao10 y129.length co10 : Value).ownBlock) (.slice Ao15 y139.length co15) y139) := ⟨by (with_reducible repeat (first | apply Kd.R_alloc | apply Kd.R_drewN | apply Kd.R_drew)); exact Kd.R_mono (fr10_ (Kd.R_types HO141.out BK148.out (by decide)) (fun _ hk => hk.2)) (fun _ hk => hk.1.2)⟩
 have n2_ : Aside0 (((((((((((w18.setCell ⟨gb148, 0, none⟩ (.int .i64 t132)).setCell ⟨gb148, 1, none⟩ (.int .i64 t135)).setCell ⟨gb148, 2, none⟩ (.int .i64 t136)).setCell ⟨gb148, 3, none⟩ (.int .i64 0)).setCell ⟨gb148, 4, none⟩ (.int .i64 0)).setCell ⟨gb148, 5, none⟩ (.int .i64 0)).setCell ⟨gb148, 6, none⟩ (.int .i64 0)).setCell ⟨gb148, 7, none⟩ (.int .i64 0)).setCell ⟨gb148, 8, none⟩ (.int .i64 t142)).setCell ⟨gb148, 9, none⟩ (.int .i64 t145)).heap[gb128]? = some (.cells #[.int .i64 0, .int .i64 0, .int .i64 0, .int .i64 0, .int .i64 0, .int .i64 0, .int .i64 0, .int .i64 0, .int .i64 0, .int .i64 0] 46 (0, 0))) := ⟨bk_ BK128⟩
 have n3_ : Aside0 (((((((((((w18.setCell ⟨gb148, 0, none⟩ (.int .i64 t132)).setCell ⟨gb148, 1, none⟩ (.int .i64 t135)).setCell ⟨gb148, 2, none⟩ (.int .i64 t136)).setCell ⟨gb148, 3, none⟩ (.int .i64 0)).setCell ⟨gb148, 4, none⟩ (.int .i64 0)).setCell ⟨gb148, 5, none⟩ (.int .i64 0)).setCell ⟨gb148, 6, none⟩ (.int .i64 0)).setCell ⟨gb148, 7, none⟩ (.int .i64 0)).setCell ⟨gb148, 8, none⟩ (.int .i64 t142)).setCell ⟨gb148, 9, none⟩ (.int .i64 t145)).heap[gb148]? = some (.cells #[.int .i64 t132, .int .i64 t135, .int .i64 t136, .int .i64 0, .int .i64 0, .int .i64 0, .int .i64 0, .int .i64 0, .int .i64 t142, .int .i64 t145] 46 (0, 0))) := ⟨bk_ BK148⟩
 have n4_ : Aside0 (IsS69 w0 ((((((((((w18.setCell ⟨gb148, 0, none⟩ (.int .i64 t132)).setCell ⟨gb148, 1, none⟩ (.int .i64 t135)).setCell ⟨gb148, 2, none⟩ (.int .i64 t136)).setCell ⟨gb148, 3, none⟩ (.int .i64 0)).setCell ⟨gb148, 4, none⟩ (.int .i64 0)).setCell ⟨gb148, 5, none⟩ (.int .i64 0)).setCell ⟨gb148, 6, none⟩ (.int .i64 0)).setCell ⟨gb148, 7, none⟩ (.int .i64 0)).setCell ⟨gb148, 8, none⟩ (.int .i64 t142)).setCell ⟨gb148, 9, none⟩ (.int .i64 t145)) g s0_0 t146 t147) := ⟨by exact IsS69.nw_⟩
 have n5_ : Aside0 (KeepBut w ((((((((((w18.setCell ⟨gb148, 0, none⟩ (.int .i64 t132)).setCell ⟨gb148, 1, none⟩ (.int .i64 t135)).setCell ⟨gb148, 2, none⟩ (.int .i64 t136)).setCell ⟨gb148, 3, none⟩ (.int .i64 0)).setCell ⟨gb148, 4, none⟩ (.int .i64 0)).setCell ⟨gb148, 5, none⟩ (.int .i64 0)).setCell ⟨gb148, 6, none⟩ (.int .i64 0)).setCell ⟨gb148, 7, none⟩ (.int .i64 0)).setCell ⟨gb148, 8, none⟩ (.int .i64 t142)).setCell ⟨gb148, 9, none⟩ (.int .i64 t145)) g none) := ⟨by exact kp_⟩
 have n6_ : Aside0 (Below w0.heap.size w0 ((((((((((w18.setCell ⟨gb148, 0, none⟩ (.int .i64 t132)).setCell ⟨gb148, 1, none⟩ (.int .i64 t135)).setCell ⟨gb148, 2, none⟩ (.int .i64 t136)).setCell ⟨gb148, 3, none⟩ (.int .i64 0)).setCell ⟨gb148, 4, none⟩ (.int .i64 0)).setCell ⟨gb148, 5, none⟩ (.int .i64 0)).setCell ⟨gb148, 6, none⟩ (.int .i64 0)).setCell ⟨gb148, 7, none⟩ (.int .i64 0)).setCell ⟨gb148, 8, none⟩ (.int .i64 t142)).setCell ⟨gb148, 9, none⟩ (.int .i64 t145))) := ⟨by exact IsS69.bw_⟩
 (try clear HO131)
 (try clear HO141)
 (try clear BK128)
 (try clear BK148)
 (try clear HI0)
 (try clear HK)
 (try clear HB)
 generalize ((((((((((w18.setCell ⟨gb148, 0, none⟩ (.int .i64 t132)).setCell ⟨gb148, 1, none⟩ (.int .i64 t135)).setCell ⟨gb148, 2, none⟩ (.int .i64 t136)).setCell ⟨gb148, 3, none⟩ (.int .i64 0)).setCell ⟨gb148, 4, none⟩ (.int .i64 0)).setCell ⟨gb148, 5, none⟩ (.int .i64 0)).setCell ⟨gb148, 6, none⟩ (.int .i64 0)).setCell ⟨gb148, 7, none⟩ (.int .i64 0)).setCell ⟨gb148, 8, none⟩ (.int .i64 t142)).setCell ⟨gb148, 9, none⟩ (.int .i64 t145)) = w22 at n0_ n1_ n2_ n3_ n4_ n5_ n6_ ⊢
 have HO131 := n0_
 have HO141 := n1_
 have BK128 := n2_
 have BK148 := n3_
 have HI0 := n4_
 have HK := n5_
 have HB := n6_
 clear n0_ n1_ n2_ n3_ n4_ n5_ n6_
 (try simp only [Act.put, List.setIfInBounds_toArray, List.set_cons_zero, List.set_cons_succ])
 have H := HC6.out
 clear HC6
 by_cases c23 : t132 = 1
 ·rw [if_pos c23] at H
  have c23b0 : (t132 == 1) = true := beq_iff_eq.mpr c23
  have c23b1 : (t132 != 1) = false := bne_eq_false_iff_eq.mpr c23
  clear c23
  (first | rw [c23b0] | (simp only [i64_w, i32_w]; rw [c23b0]) | skip)
  obtain ⟨⟨t149, t150, t151⟩, A24, H⟩ := bindE_ H
  (try dsimp only at H)
  simp only [Option.some.injEq, Prod.mk.injEq] at H
  obtain ⟨rfl, rfl, rfl, rfl, rfl, rfl, rfl, rfl, rfl, rfl, rfl, rfl⟩ := H
  go_wp2_with (first | ((with_reducible refine gC_ 21 rfl ?_); refine goesC_ (some 20) Try.func21 #[.pointer (some ⟨g, 0, none⟩), .int .i64 6] ?_; (with_reducible refine (spec_l01Below.calls g s0_0 t146 t147 6 t149 t150 t151 w0 _ ?side1 ?side2 A24.out).mono ?_); (case side1 => exact IsS69.nw_); (case side2 => exact IsS69.bw_); rintro e w25 ⟨rfl, hi, hb, hk⟩; refine ⟨_, rfl, ?_⟩; replace BK128 := aa_ (KeepBut.blk hk (g' := gb128) (o := .cells #[.int .i64 0, .int .i64 0, .int .i64 0, .int .i64 0, .int .i64 0, .int .i64 0, .int .i64 0, .int .i64 0, .int .i64 0, .int .i64 0] 46 (0, 0)) (bk_ BK128) NB128_0.out (by simp)); replace HO131 := aa_ (Kd.R_mono (Kd.R_keep (IsS69.apart (show IsS69 w0 _ g s0_0 t146 t147 from by exact IsS69.nw_) (rr_ HO131) (by decide)) hk (fun _ h => h.2)) (fun _ h => h.1)); replace HO141 := aa_ (Kd.R_mono (Kd.R_keep (IsS69.apart (show IsS69 w0 _ g s0_0 t146 t147 from by exact IsS69.nw_) (rr_ HO141) (by decide)) hk (fun _ h => h.2)) (fun _ h => h.1)); replace BK148 := aa_ (KeepBut.blk hk (g' := gb148) (o := .cells #[.int .i64 t132, .int .i64 t135, .int .i64 t136, .int .i64 0, .int .i64 0, .int .i64 0, .int .i64 0, .int .i64 0, .int .i64 t142, .int .i64 t145] 46 (0, 0)) (bk_ BK148) NB148_0.out (by simp)); replace HK := aa_ (KeepBut.trans (by exact kp_) hk (.inl rfl)); replace HB := aa_ (hb); replace HI0 := aa_ (hi); (try clear hb hk hi); have hnb26 := NB148_128.out; have hnc26 := NB128_148.out; have hnb27 := NB148_0.out; have hnc27 := NB0_148.out; obtain ⟨hcz28, hfz28⟩ := bcf_ BK148; have hnb29 := NB128_0.out; have hnc29 := NB0_128.out; obtain ⟨hcz30, hfz30⟩ := bcf_ BK128))
  refine bodyPost_ret (results_cell_row rfl _ _ gb128 46 #[.int .i64 t132, .int .i64 t135, .int .i64 t136, .int .i64 t149, .int .i64 0, .int .i64 0, .int .i64 0, .int .i64 0, .int .i64 t142, .int .i64 t145] (0, 0) _ rfl (bk_ BK128) Try.underlying46 rfl (by kernel_rfl)) rfl ?_
  exact ⟨eq_, by exact IsS69.nw_, by exact IsS69.bw_, by exact kp_⟩
 ·rw [if_neg c23] at H
  have c23b0 : (t132 == 1) = false := beq_eq_false_iff_ne.mpr c23
  have c23b1 : (t132 != 1) = true := bne_iff_ne.mpr c23
  (first | rw [c23b0] | (simp only [i64_w, i32_w]; rw [c23b0]) | skip)
  by_cases c31 : t132 = 2
  ·rw [if_pos c31] at H
   have c31b0 : (t132 == 2) = true := beq_iff_eq.mpr c31
   have c31b1 : (t132 != 2) = false := bne_eq_false_iff_eq.mpr c31
   clear c31
   obtain ⟨⟨t152, t153, t154, t155⟩, A32, H⟩ := bindE_ H
   (try dsimp only at H)
   simp only [Option.some.injEq, Prod.mk.injEq] at H
   obtain ⟨rfl, rfl, rfl, rfl, rfl, rfl, rfl, rfl, rfl, rfl, rfl, rfl⟩ := H
   go_wp2_with (first | ((with_reducible refine gC_ 44 rfl ?_); refine goesC_ (some 25) Try.func44 #[.pointer (some ⟨g, 0, none⟩)] ?_; (with_reducible refine (spec_l05Role.calls g s0_0 t146 t147 t152 t153 t154 t155 w0 _ ?side1 ?side2 A32.out).mono ?_); (case side1 => exact IsS69.nw_); (case side2 => exact IsS69.bw_); rintro e w33 ⟨rfl, hi, hb, hk⟩; refine ⟨_, rfl, ?_⟩; replace BK128 := aa_ (KeepBut.blk hk (g' := gb128) (o := .cells #[.int .i64 0, .int .i64 0, .int .i64 0, .int .i64 0, .int .i64 0, .int .i64 0, .int .i64 0, .int .i64 0, .int .i64 0, .int .i64 0] 46 (0, 0)) (bk_ BK128) NB128_0.out (by simp)); replace HO131 := aa_ (Kd.R_mono (Kd.R_keep (IsS69.apart (show IsS69 w0 _ g s0_0 t146 t147 from by exact IsS69.nw_) (rr_ HO131) (by decide)) hk (fun _ h => h.2)) (fun _ h => h.1)); replace HO141 := aa_ (Kd.R_mono (Kd.R_keep (IsS69.apart (show IsS69 w0 _ g s0_0 t146 t147 from by exact IsS69.nw_) (rr_ HO141) (by decide)) hk (fun _ h => h.2)) (fun _ h => h.1)); replace BK148 := aa_ (KeepBut.blk hk (g' := gb148) (o := .cells #[.int .i64 t132, .int .i64 t135, .int .i64 t136, .int .i64 0, .int .i64 0, .int .i64 0, .int .i64 0, .int .i64 0, .int .i64 t142, .int .i64 t145] 46 (0, 0)) (bk_ BK148) NB148_0.out (by simp)); replace HK := aa_ (KeepBut.trans (by exact kp_) hk (.inl rfl)); replace HB := aa_ (hb); replace HI0 := aa_ (hi); (try clear hb hk hi); have hnb34 := NB148_128.out; have hnc34 := NB128_148.out; have hnb35 := NB148_0.out; have hnc35 := NB0_148.out; obtain ⟨hcz36, hfz36⟩ := bcf_ BK148; have hnb37 := NB128_0.out; have hnc37 := NB0_128.out; obtain ⟨hcz38, hfz38⟩ := bcf_ BK128))
   refine bodyPost_ret (results_cell_row rfl _ _ gb128 46 #[.int .i64 t132, .int .i64 t135, .int .i64 t136, .int .i64 0, .int .i64 t152, .int .i64 t153, .int .i64 0, .int .i64 0, .int .i64 t142, .int .i64 t145] (0, 0) _ rfl (bk_ BK128) Try.underlying46 rfl (by kernel_rfl)) rfl ?_
   exact ⟨eq_, by exact IsS69.nw_, by exact IsS69.bw_, by exact kp_⟩
  ·rw [if_neg c31] at H
   have c31b0 : (t132 == 2) = false := beq_eq_false_iff_ne.mpr c31
   have c31b1 : (t132 != 2) = true := bne_iff_ne.mpr c31
   by_cases c39 : t132 = 3
   ·rw [if_pos c39] at H
    have c39b0 : (t132 == 3) = true := beq_iff_eq.mpr c39
    have c39b1 : (t132 != 3) = false := bne_eq_false_iff_eq.mpr c39
    clear c39
    obtain ⟨⟨t156, t157, t158, t159⟩, A40, H⟩ := bindE_ H
    (try dsimp only at H)
    obtain ⟨⟨t160, t161, t162⟩, A41, H⟩ := bindE_ H
    (try dsimp only at H)
    simp only [Option.some.injEq, Prod.mk.injEq] at H
    obtain ⟨rfl, rfl, rfl, rfl, rfl, rfl, rfl, rfl, rfl, rfl, rfl, rfl⟩ := H
    go_wp2_with (first | ((with_reducible refine gC_ 44 rfl ?_); refine goesC_ (some 30) Try.func44 #[.pointer (some ⟨g, 0, none⟩)] ?_; (with_reducible refine (spec_l05Role.calls g s0_0 t146 t147 t156 t157 t158 t159 w0 _ ?side1 ?side2 A40.out).mono ?_); (case side1 => exact IsS69.nw_); (case side2 => exact IsS69.bw_); rintro e w42 ⟨rfl, hi, hb, hk⟩; refine ⟨_, rfl, ?_⟩; replace BK128 := aa_ (KeepBut.blk hk (g' := gb128) (o := .cells #[.int .i64 0, .int .i64 0, .int .i64 0, .int .i64 0, .int .i64 0, .int .i64 0, .int .i64 0, .int .i64 0, .int .i64 0, .int .i64 0] 46 (0, 0)) (bk_ BK128) NB128_0.out (by simp)); replace HO131 := aa_ (Kd.R_mono (Kd.R_keep (IsS69.apart (show IsS69 w0 _ g s0_0 t146 t147 from by exact IsS69.nw_) (rr_ HO131) (by decide)) hk (fun _ h => h.2)) (fun _ h => h.1)); replace HO141 := aa_ (Kd.R_mono (Kd.R_keep (IsS69.apart (show IsS69 w0 _ g s0_0 t146 t147 from by exact IsS69.nw_) (rr_ HO141) (by decide)) hk (fun _ h => h.2)) (fun _ h => h.1)); replace BK148 := aa_ (KeepBut.blk hk (g' := gb148) (o := .cells #[.int .i64 t132, .int .i64 t135, .int .i64 t136, .int .i64 0, .int .i64 0, .int .i64 0, .int .i64 0, .int .i64 0, .int .i64 t142, .int .i64 t145] 46 (0, 0)) (bk_ BK148) NB148_0.out (by simp)); replace HK := aa_ (KeepBut.trans (by exact kp_) hk (.inl rfl)); replace HB := aa_ (hb); replace HI0 := aa_ (hi); (try clear hb hk hi); have hnb43 := NB148_128.out; have hnc43 := NB128_148.out; have hnb44 := NB148_0.out; have hnc44 := NB0_148.out; obtain ⟨hcz45, hfz45⟩ := bcf_ BK148) | ((with_reducible refine gC_ 21 rfl ?_); refine goesC_ (some 33) Try.func21 #[.pointer (some ⟨g, 0, none⟩), .int .i64 2] ?_; (with_reducible refine (spec_l01Below.calls g s0_0 t158 t159 2 t160 t161 t162 w0 _ ?side1 ?side2 A41.out).mono ?_); (case side1 => exact IsS69.nw_); (case side2 => exact IsS69.bw_); rintro e w46 ⟨rfl, hi, hb, hk⟩; refine ⟨_, rfl, ?_⟩; replace BK128 := aa_ (KeepBut.blk hk (g' := gb128) (o := .cells #[.int .i64 0, .int .i64 0, .int .i64 0, .int .i64 0, .int .i64 0, .int .i64 0, .int .i64 0, .int .i64 0, .int .i64 0, .int .i64 0] 46 (0, 0)) (bk_ BK128) NB128_0.out (by simp)); replace HO131 := aa_ (Kd.R_mono (Kd.R_keep (IsS69.apart (show IsS69 w0 _ g s0_0 t158 t159 from by exact IsS69.nw_) (by (with_reducible repeat (first | apply Kd.R_alloc | apply Kd.R_drewN | apply Kd.R_drew)); exact (Kd.R_mono (Kd.R_far (p := ⟨gb148, 5, none⟩) (Kd.R_far (p := ⟨gb148, 4, none⟩) (Kd.R_types HO131.out BK148.out (by decide)) (fun _ hk => hk.2) (.int .i64 t156)) (fun _ hk => hk.2) (.int .i64 t157)) (fun _ h_ => h_.1))) (by decide)) hk (fun _ h => h.2)) (fun _ h => h.1)); replace HO141 := aa_ (Kd.R_mono (Kd.R_keep (IsS69.apart (show IsS69 w0 _ g s0_0 t158 t159 from by exact IsS69.nw_) (by (with_reducible repeat (first | apply Kd.R_alloc | apply Kd.R_drewN | apply Kd.R_drew)); exact (Kd.R_mono (Kd.R_far (p := ⟨gb148, 5, none⟩) (Kd.R_far (p := ⟨gb148, 4, none⟩) (Kd.R_types HO141.out BK148.out (by decide)) (fun _ hk => hk.2) (.int .i64 t156)) (fun _ hk => hk.2) (.int .i64 t157)) (fun _ h_ => h_.1))) (by decide)) hk (fun _ h => h.2)) (fun _ h => h.1)); replace BK148 := aa_ (KeepBut.blk hk (g' := gb148) (o := .cells #[.int .i64 t132, .int .i64 t135, .int .i64 t136, .int .i64 0, .int .i64 t156, .int .i64 t157, .int .i64 0, .int .i64 0, .int .i64 t142, .int .i64 t145] 46 (0, 0)) (bk_ BK148) NB148_0.out (by simp)); replace HK := aa_ (KeepBut.trans (by exact kp_) hk (.inl rfl)); replace HB := aa_ (hb); replace HI0 := aa_ (hi); (try clear hb hk hi); obtain ⟨hcz47, hfz47⟩ := bcf_ BK148; have hnb48 := NB128_0.out; have hnc48 := NB0_128.out; obtain ⟨hcz49, hfz49⟩ := bcf_ BK128))
    refine bodyPost_ret (results_cell_row rfl _ _ gb128 46 #[.int .i64 t132, .int .i64 t135, .int .i64 t136, .int .i64 0, .int .i64 t156, .int .i64 t157, .int .i64 0, .int .i64 t160, .int .i64 t142, .int .i64 t145] (0, 0) _ rfl (bk_ BK128) Try.underlying46 rfl (by kernel_rfl)) rfl ?_
    exact ⟨eq_, by exact IsS69.nw_, by exact IsS69.bw_, by exact kp_⟩
   ·rw [if_neg c39] at H
    have c39b0 : (t132 == 3) = false := beq_eq_false_iff_ne.mpr c39
    have c39b1 : (t132 != 3) = true := bne_iff_ne.mpr c39
    by_cases c50 : t132 = 4
    ·rw [if_pos c50] at H
     have c50b0 : (t132 == 4) = true := beq_iff_eq.mpr c50
     have c50b1 : (t132 != 4) = false := bne_eq_false_iff_eq.mpr c50
     clear c50
     obtain ⟨⟨t163, t164, t165, t166⟩, A51, H⟩ := bindE_ H
     (try dsimp only at H)
     obtain ⟨⟨t167, t168, t169, t170⟩, A52, H⟩ := bindE_ H
     (try dsimp only at H)
     simp only [Option.some.injEq, Prod.mk.injEq] at H
     obtain ⟨rfl, rfl, rfl, rfl, rfl, rfl, rfl, rfl, rfl, rfl, rfl, rfl⟩ := H
     go_wp2_with (first | ((with_reducible refine gC_ 44 rfl ?_); refine goesC_ (some 39) Try.func44 #[.pointer (some ⟨g, 0, none⟩)] ?_; (with_reducible refine (spec_l05Role.calls g s0_0 t146 t147 t163 t164 t165 t166 w0 _ ?side1 ?side2 A51.out).mono ?_); (case side1 => exact IsS69.nw_); (case side2 => exact IsS69.bw_); rintro e w53 ⟨rfl, hi, hb, hk⟩; refine ⟨_, rfl, ?_⟩; replace BK128 := aa_ (KeepBut.blk hk (g' := gb128) (o := .cells #[.int .i64 0, .int .i64 0, .int .i64 0, .int .i64 0, .int .i64 0, .int .i64 0, .int .i64 0, .int .i64 0, .int .i64 0, .int .i64 0] 46 (0, 0)) (bk_ BK128) NB128_0.out (by simp)); replace HO131 := aa_ (Kd.R_mono (Kd.R_keep (IsS69.apart (show IsS69 w0 _ g s0_0 t146 t147 from by exact IsS69.nw_) (rr_ HO131) (by decide)) hk (fun _ h => h.2)) (fun _ h => h.1)); replace HO141 := aa_ (Kd.R_mono (Kd.R_keep (IsS69.apart (show IsS69 w0 _ g s0_0 t146 t147 from by exact IsS69.nw_) (rr_ HO141) (by decide)) hk (fun _ h => h.2)) (fun _ h => h.1)); replace BK148 := aa_ (KeepBut.blk hk (g' := gb148) (o := .cells #[.int .i64 t132, .int .i64 t135, .int .i64 t136, .int .i64 0, .int .i64 0, .int .i64 0, .int .i64 0, .int .i64 0, .int .i64 t142, .int .i64 t145] 46 (0, 0)) (bk_ BK148) NB148_0.out (by simp)); replace HK := aa_ (KeepBut.trans (by exact kp_) hk (.inl rfl)); replace HB := aa_ (hb); replace HI0 := aa_ (hi); (try clear hb hk hi); have hnb54 := NB148_128.out; have hnc54 := NB128_148.out; have hnb55 := NB148_0.out; have hnc55 := NB0_148.out; obtain ⟨hcz56, hfz56⟩ := bcf_ BK148) | ((with_reducible refine gC_ 44 rfl ?_); refine goesC_ (some 42) Try.func44 #[.pointer (some ⟨g, 0, none⟩)] ?_; (with_reducible refine (spec_l05Role.calls g s0_0 t165 t166 t167 t168 t169 t170 w0 _ ?side1 ?side2 A52.out).mono ?_); (case side1 => exact IsS69.nw_); (case side2 => exact IsS69.bw_); rintro e w57 ⟨rfl, hi, hb, hk⟩; refine ⟨_, rfl, ?_⟩; replace BK128 := aa_ (KeepBut.blk hk (g' := gb128) (o := .cells #[.int .i64 0, .int .i64 0, .int .i64 0, .int .i64 0, .int .i64 0, .int .i64 0, .int .i64 0, .int .i64 0, .int .i64 0, .int .i64 0] 46 (0, 0)) (bk_ BK128) NB128_0.out (by simp)); replace HO131 := aa_ (Kd.R_mono (Kd.R_keep (IsS69.apart (show IsS69 w0 _ g s0_0 t165 t166 from by exact IsS69.nw_) (by (with_reducible repeat (first | apply Kd.R_alloc | apply Kd.R_drewN | apply Kd.R_drew)); exact (Kd.R_mono (Kd.R_far (p := ⟨gb148, 5, none⟩) (Kd.R_far (p := ⟨gb148, 4, none⟩) (Kd.R_types HO131.out BK148.out (by decide)) (fun _ hk => hk.2) (.int .i64 t163)) (fun _ hk => hk.2) (.int .i64 t164)) (fun _ h_ => h_.1))) (by decide)) hk (fun _ h => h.2)) (fun _ h => h.1)); replace HO141 := aa_ (Kd.R_mono (Kd.R_keep (IsS69.apart (show IsS69 w0 _ g s0_0 t165 t166 from by exact IsS69.nw_) (by (with_reducible repeat (first | apply Kd.R_alloc | apply Kd.R_drewN | apply Kd.R_drew)); exact (Kd.R_mono (Kd.R_far (p := ⟨gb148, 5, none⟩) (Kd.R_far (p := ⟨gb148, 4, none⟩) (Kd.R_types HO141.out BK148.out (by decide)) (fun _ hk => hk.2) (.int .i64 t163)) (fun _ hk => hk.2) (.int .i64 t164)) (fun _ h_ => h_.1))) (by decide)) hk (fun _ h => h.2)) (fun _ h => h.1)); replace BK148 := aa_ (KeepBut.blk hk (g' := gb148) (o := .cells #[.int .i64 t132, .int .i64 t135, .int .i64 t136, .int .i64 0, .int .i64 t163, .int .i64 t164, .int .i64 0, .int .i64 0, .int .i64 t142, .int .i64 t145] 46 (0, 0)) (bk_ BK148) NB148_0.out (by simp)); replace HK := aa_ (KeepBut.trans (by exact kp_) hk (.inl rfl)); replace HB := aa_ (hb); replace HI0 := aa_ (hi); (try clear hb hk hi); obtain ⟨hcz58, hfz58⟩ := bcf_ BK148; have hnb59 := NB128_0.out; have hnc59 := NB0_128.out; obtain ⟨hcz60, hfz60⟩ := bcf_ BK128))
     refine bodyPost_ret (results_cell_row rfl _ _ gb128 46 #[.int .i64 t132, .int .i64 t135, .int .i64 t136, .int .i64 0, .int .i64 t163, .int .i64 t164, .int .i64 t167, .int .i64 t168, .int .i64 t142, .int .i64 t145] (0, 0) _ rfl (bk_ BK128) Try.underlying46 rfl (by kernel_rfl)) rfl ?_
     exact ⟨eq_, by exact IsS69.nw_, by exact IsS69.bw_, by exact kp_⟩
    ·rw [if_neg c50] at H
     have c50b0 : (t132 == 4) = false := beq_eq_false_iff_ne.mpr c50
     have c50b1 : (t132 != 4) = true := bne_iff_ne.mpr c50
     simp only [Option.some.injEq, Prod.mk.injEq] at H
     obtain ⟨rfl, rfl, rfl, rfl, rfl, rfl, rfl, rfl, rfl, rfl, rfl, rfl⟩ := H
     have hnb61 := NB148_128.out
     have hnc61 := NB128_148.out
     have hnb62 := NB148_0.out
     have hnc62 := NB0_148.out
     have hcz63 := blk_cell BK148.out
     have hfz63 := blk_frozen BK148.out
     have hnb64 := NB128_0.out
     have hnc64 := NB0_128.out
     have hcz65 := blk_cell BK128.out
     have hfz65 := blk_frozen BK128.out
     go_wp2
     refine bodyPost_ret (results_cell_row rfl _ _ gb128 46 #[.int .i64 t132, .int .i64 t135, .int .i64 t136, .int .i64 0, .int .i64 0, .int .i64 0, .int .i64 0, .int .i64 0, .int .i64 t142, .int .i64 t145] (0, 0) _ rfl (bk_ BK128) Try.underlying46 rfl (by kernel_rfl)) rfl ?_
     exact ⟨eq_, by exact IsS69.nw_, by exact IsS69.bw_, by exact kp_⟩
def spec_l06Creds.l0 : Nat → List (S46) → Int → List Int → Int → Int → Option ((List (S46)) × Int × Int)
 | 0, _, _, _, _, _ => none
 | k + 1, x3, x4, x1000, x1001, x1002 => (spec_l01Below.f x1000 x1001 x1002 9).bind fun bt174 => (if x4 < (wrap64 (1 + bt174.1)) then ((spec_l05Cred.f x1000 bt174.2.1 bt174.2.2).bind fun bt177 => (if x3.length < 1759218604441 then (spec_l06Creds.l0 k (x3 ++ [(⟨bt177.1, (⟨bt177.2.1, bt177.2.2.1⟩ : S27), bt177.2.2.2.1, (⟨bt177.2.2.2.2.1, bt177.2.2.2.2.2.1⟩ : S27), (⟨bt177.2.2.2.2.2.2.1, bt177.2.2.2.2.2.2.2.1⟩ : S27), bt177.2.2.2.2.2.2.2.2.1, bt177.2.2.2.2.2.2.2.2.2.1⟩ : S46)]) (wrap64 (x4 + 1)) x1000 bt177.2.2.2.2.2.2.2.2.2.2.1 bt177.2.2.2.2.2.2.2.2.2.2.2) else (none))) else (some (x3, bt174.2.1, bt174.2.2)))
def spec_l06Creds.f (k : Nat) (s0_0 : List Int) (s0_1 : Int) (s0_2 : Int) : Option ((List (S46)) × Int × Int) := spec_l06Creds.l0 k (([] : List (S46))) 0 s0_0 s0_1 s0_2
set_option maxHeartbeats 8000000 in
set_option maxRecDepth 100000 in
theorem spec_l06Creds.calls (k : Nat) (g : Nat) (s0_0 : List Int) (s0_1 : Int) (s0_2 : Int) (r1 : List (S46)) (r2 : Int) (r3 : Int) (w0 w : World) (hI : IsS69 w0 w g s0_0 s0_1 s0_2) (hB : Below w0.heap.size w0 w) (h : spec_l06Creds.f k s0_0 s0_1 s0_2 = some (r1, r2, r3)) :
  Calls Try.prog 19 #[.pointer (some ⟨g, 0, none⟩)] w fun e w' => ∃ v0_ : Value, e = .returned (v0_) ∧ Kd.R k46 46 w' w.heap.size (fun _ => True) v0_ r1 ∧ IsS69 w0 w' g s0_0 r2 r3 ∧ Below w0.heap.size w0 w' ∧ KeepBut w w' g none := by
 have HI0 := aa_ hI
 have HK := aa_ (KeepBut.refl w g none)
 have HL := aa_ hB.size
 clear hI
 have HW0 := aa_ hB.size
 have HB := aa_ hB
 clear hB
 have H : (spec_l06Creds.l0 k (([] : List (S46))) 0 s0_0 s0_1 s0_2) = some (r1, r2, r3) := h
 clear h
 obtain ⟨y171, hy171⟩ : ∃ y_ : List (S46), y_ = (([] : List (S46))) := ⟨_, rfl⟩
 replace H : (spec_l06Creds.l0 k y171 0 s0_0 s0_1 s0_2) = some (r1, r2, r3) := rh_ hy171 H
 have Ny171 := aa_ hy171
 clear hy171
 have H' := aa_ H
 clear H
 go_enter Try.func19, Try.ntmps19
 go_wp2_with (first | ((with_reducible refine gD_ 5 rfl ?_); refine Kd.R_lit k46 _ 46 ?hg (N := 5) ?hd (xs := ([] : List (S46))) (inner := []) (ok := fun _ => True) (okp := fun _ => True) ?hr ?hp (fun _ hk => hk) trivial (Below.refl _ _) (Nat.le_refl _) (by simp) ?_; (case hd => rfl); (case hg => rfl); (case hr => first | (go_simp; done) | (go_simp; rfl)); (case hp => exact (Reps.none _ _)); intro v172 w2 ho3 hb hg_ hnew_; clear hg_ hnew_; (first | rw [← Ny171.out] at ho3 | (simp only [Int.reduceToNat] at ho3; rw [← Ny171.out] at ho3)); have HO173 := aa_ (Kd.R_lower ho3 (keep_size (w := w) (g := g) (row := none) (by exact kp_))); replace HK := aa_ (KeepBut.trans (by exact kp_) (KeepBut.of_below hb g none) (.inl rfl)); replace HB := aa_ (below_step (by exact IsS69.bw_) hb); replace HI0 := aa_ (IsS69.below (by exact IsS69.nw_) hb); clear hb ho3))
 go_loopg [3, 4] k (fun kq v3 v4 w' => ∃ (x3_1 : List (S46)) (x4_1 : Int) (x1001_1 : Int) (x1002_1 : Int), v4 = .int .i64 x4_1 ∧ Aside0 (spec_l06Creds.l0 kq x3_1 x4_1 s0_0 x1001_1 x1002_1 = some (r1, r2, r3)) ∧ Aside0 (kq ≤ k) ∧ Aside0 (Kd.R k46 46 w' w.heap.size (fun _ => True) v3 x3_1) ∧ Aside0 (IsS69 w0 w' g s0_0 x1001_1 x1002_1) ∧ Aside0 (KeepBut w w' g none) ∧ Aside0 (Below w0.heap.size w0 w'))
 case atStart => exact ⟨(y171), (0), (s0_1), (s0_2), rf_, H', ⟨Nat.le_refl _⟩, ⟨rr_ HO173⟩, ⟨by exact IsS69.nw_⟩, ⟨by exact kp_⟩, ⟨by exact IsS69.bw_⟩⟩
 case round =>
  clear H'
  try clear c1
  try clear p2
  obtain ⟨x3_1, x4_1, x1001_1, x1002_1, rfl, HA, HK1, HO_3, HI0, HK, HB⟩ := hrel
  cases gk with
  | zero => exact absurd HA.out (by simp [spec_l06Creds.l0])
  | succ k1 =>
   have H := HA.out
   clear HA
   simp only [spec_l06Creds.l0] at H
   obtain ⟨⟨t174, t175, t176⟩, A4, H⟩ := bindE_ H
   replace H : (if x4_1 < (wrap64 (1 + t174)) then ((spec_l05Cred.f s0_0 t175 t176).bind fun bt177 => (if x3_1.length < 1759218604441 then (spec_l06Creds.l0 k1 (x3_1 ++ [(⟨bt177.1, (⟨bt177.2.1, bt177.2.2.1⟩ : S27), bt177.2.2.2.1, (⟨bt177.2.2.2.2.1, bt177.2.2.2.2.2.1⟩ : S27), (⟨bt177.2.2.2.2.2.2.1, bt177.2.2.2.2.2.2.2.1⟩ : S27), bt177.2.2.2.2.2.2.2.2.1, bt177.2.2.2.2.2.2.2.2.2.1⟩ : S46)]) (wrap64 (x4_1 + 1)) s0_0 bt177.2.2.2.2.2.2.2.2.2.2.1 bt177.2.2.2.2.2.2.2.2.2.2.2) else (none))) else (some (x3_1, t175, t176))) = some (r1, r2, r3) := H
   have HC5 := aa_ H
   clear H
   go_upto_if 10 with (first | ((with_reducible refine gC_ 21 rfl ?_); refine goesC_ (some 8) Try.func21 #[.pointer (some ⟨g, 0, none⟩), .int .i64 9] ?_; (with_reducible refine (spec_l01Below.calls g s0_0 x1001_1 x1002_1 9 t174 t175 t176 w0 _ ?side1 ?side2 A4.out).mono ?_); (case side1 => exact IsS69.nw_); (case side2 => exact IsS69.bw_); rintro e w6 ⟨rfl, hi, hb, hk⟩; refine ⟨_, rfl, ?_⟩; replace HO_3 := aa_ (Kd.R_mono (Kd.R_keep (IsS69.apart (show IsS69 w0 _ g s0_0 x1001_1 x1002_1 from by exact IsS69.nw_) (rr_ HO_3) (by decide)) hk (fun _ h => h.2)) (fun _ h => h.1)); replace HK := aa_ (KeepBut.trans (by exact kp_) hk (.inl rfl)); replace HB := aa_ (hb); replace HI0 := aa_ (hi); (try clear hb hk hi)))
   (try simp only [Act.put, List.setIfInBounds_toArray, List.set_cons_zero, List.set_cons_succ])
   have H := HC5.out
   clear HC5
   by_cases c7 : x4_1 < (wrap64 (1 + t174))
   ·rw [if_pos c7] at H
    have c7b0 : decide (x4_1 < (wrap64 (1 + t174))) = true := decide_eq_true c7
    clear c7
    (first | rw [c7b0] | (simp only [i64_w, i32_w]; rw [c7b0]) | skip)
    obtain ⟨⟨t177, t178, t179, t180, t181, t182, t183, t184, t185, t186, t187, t188⟩, A8, H⟩ := bindE_ H
    replace H : (if x3_1.length < 1759218604441 then (spec_l06Creds.l0 k1 (x3_1 ++ [(⟨t177, (⟨t178, t179⟩ : S27), t180, (⟨t181, t182⟩ : S27), (⟨t183, t184⟩ : S27), t185, t186⟩ : S46)]) (wrap64 (x4_1 + 1)) s0_0 t187 t188) else (none)) = some (r1, r2, r3) := H
    obtain ⟨c9, H⟩ := ifn_ H
    have LMc9 := aa_ c9
    clear c9
    obtain ⟨y189, hy189⟩ : ∃ y_ : List (S46), y_ = (x3_1 ++ [(⟨t177, (⟨t178, t179⟩ : S27), t180, (⟨t181, t182⟩ : S27), (⟨t183, t184⟩ : S27), t185, t186⟩ : S46)]) := ⟨_, rfl⟩
    replace H : (spec_l06Creds.l0 k1 y189 (wrap64 (x4_1 + 1)) s0_0 t187 t188) = some (r1, r2, r3) := rh_ hy189 H
    have Ny189 := aa_ hy189
    clear hy189
    have H' := aa_ H
    clear H
    go_wp2_with (first | ((with_reducible refine gC_ 34 rfl ?_); refine goesC_ (some 15) Try.func34 #[.pointer (some ⟨g, 0, none⟩)] ?_; (with_reducible refine (spec_l05Cred.calls g s0_0 t175 t176 t177 t178 t179 t180 t181 t182 t183 t184 t185 t186 t187 t188 w0 _ ?side1 ?side2 A8.out).mono ?_); (case side1 => exact IsS69.nw_); (case side2 => exact IsS69.bw_); rintro e w10 ⟨rfl, hi, hb, hk⟩; refine ⟨_, rfl, ?_⟩; replace HO_3 := aa_ (Kd.R_mono (Kd.R_keep (IsS69.apart (show IsS69 w0 _ g s0_0 t175 t176 from by exact IsS69.nw_) (rr_ HO_3) (by decide)) hk (fun _ h => h.2)) (fun _ h => h.1)); replace HK := aa_ (KeepBut.trans (by exact kp_) hk (.inl rfl)); replace HB := aa_ (hb); replace HI0 := aa_ (hi); (try clear hb hk hi)) | ((with_reducible refine gate_builtin (b := .append) (xs := #[.tmp 13, .tmp 16]) rfl ?_); at_builtin; refine Kd.R_append k46 w.heap.size rfl (.tmp 13) (.tmp 16) 24 46 (.agg #[(.int .i64 0), (.int .i64 0), (.int .i64 0), (.int .i64 0), (.int .i64 0), (.int .i64 0), (.int .i64 0), (.int .i64 0), (.int .i64 0), (.int .i64 0)]) 80 rfl Try.underlying24 info46 rfl (by decide) (by omega) u3 x3_1 (⟨t177, (⟨t178, t179⟩ : S27), t180, (⟨t181, t182⟩ : S27), (⟨t183, t184⟩ : S27), t185, t186⟩ : S46) [.int .i64 t177, .int .i64 t178, .int .i64 t179, .int .i64 t180, .int .i64 t181, .int .i64 t182, .int .i64 t183, .int .i64 t184, .int .i64 t185, .int .i64 t186] (fun _ => True) (fun _ => False) rfl rfl ?aP (fun _ hk => hk.elim) ?aF ?aO (Below.refl _ _) ?aS ?aL ?_; (case aP => exact k46_mkM _ _ _ (⟨t177, (⟨t178, t179⟩ : S27), t180, (⟨t181, t182⟩ : S27), (⟨t183, t184⟩ : S27), t185, t186⟩ : S46)); (case aF => exact (fun _ _ => trivial)); (case aO => exact (rr_ HO_3)); (case aS => exact (keep_size (w := w) (g := g) (row := none) (by exact kp_))); (case aL => have := LMc9.out; omega); intro v190 w11 ho hb hg hat; rw [← Ny189.out] at ho; replace HB := aa_ (below_weaken (by exact IsS69.bw_) HL.out hb); replace HI0 := aa_ (IsS69.grown (show IsS69 w0 _ g s0_0 t187 t188 from by exact IsS69.nw_) hg (IsS69.own_ne HI0.out HO_3.out (by decide))); replace HK := aa_ (KeepBut.trans (by exact kp_) (KeepBut.of_grown hg g) (Kd.R_base2 HO_3.out)); have HO191 := aa_ (ho); clear HO_3; clear ho hb hg hat))
    go_roundg k1
    case measure => have := HK1.out; omega
    case rel => exact ⟨(y189), (wrap64 (x4_1 + 1)), (t187), (t188), rf_, H', ⟨by have := HK1.out; omega⟩, ⟨rr_ HO191⟩, ⟨by exact IsS69.nw_⟩, ⟨by exact kp_⟩, ⟨by exact IsS69.bw_⟩⟩
   ·rw [if_neg c7] at H
    have c7b0 : decide (x4_1 < (wrap64 (1 + t174))) = false := decide_eq_false c7
    clear c7
    (first | rw [c7b0] | (simp only [i64_w, i32_w]; rw [c7b0]) | skip)
    simp only [Option.some.injEq, Prod.mk.injEq] at H
    obtain ⟨rfl, rfl, rfl⟩ := H
    go_wp2
    go_ret
    exact ⟨_, eq_, by (with_reducible repeat (first | apply Kd.R_alloc | apply Kd.R_drewN | apply Kd.R_drew)); exact HO_3.out, by exact IsS69.nw_, by exact IsS69.bw_, by exact kp_⟩
def spec_l01New.l0 : Nat → List Int → Int → Int → Option (List Int × Int × Int)
 | 0, _, _, _ => none
 | k + 1, x0, x3, x4 => if x4 < (x0.length : Int) then (if x4 < 4000 then (if 0 ≤ x4 then (spec_l01New.l0 k x0 (Go.bits .and .i64 (wrap64 ((wrap64 ((wrap64 (x3 * 131)) + (wrap64 (rd x0 x4)))) + 7)) 1073741823) (wrap64 (x4 + 1))) else (none)) else (some (x0, 0, x3))) else (some (x0, 0, x3))
def spec_l01New.f (k : Nat) (l0 : List Int) : Option (List Int × Int × Int) := spec_l01New.l0 k l0 (wrap64 (95501 + (l0.length : Int))) 0
set_option maxHeartbeats 8000000 in
set_option maxRecDepth 100000 in
theorem spec_l01New.calls (k : Nat) (A0 : Option Addr) (c0 : Nat) (l0 : List Int) (r1 : List Int) (r2 : Int) (r3 : Int) (w0 w : World) (hB : Below w0.heap.size w0 w) (hr0 : Kd.C (Kd.int .u8) w0 A0 l0.length l0) (hc0 : l0.length ≤ c0) (h : spec_l01New.f k l0 = some (r1, r2, r3)) :
  Calls Try.prog 20 #[.slice A0 l0.length c0] w fun e w' => ∃ g_ : Nat, e = .returned (.pointer (some ⟨g_, 0, none⟩)) ∧ IsS69 w0 w' g_ r1 r2 r3 ∧ Below w0.heap.size w0 w' ∧ Below w.heap.size w w' := by
 have hu69 := Try.underlying69
 have HR0 := aa_ hr0
 have HC0 := aa_ hc0
 clear hr0 hc0
 have HBW := aa_ (Below.refl w.heap.size w)
 have HW0 := aa_ hB.size
 have HB := aa_ hB
 clear hB
 have H : (spec_l01New.l0 k l0 (wrap64 (95501 + (l0.length : Int))) 0) = some (r1, r2, r3) := h
 clear h
 have H' := aa_ H
 clear H
 go_enter Try.func20, Try.ntmps20
 go_wp2
 go_loopg [3, 4] k (fun kq v3 v4 w' => ∃ (x3_1 : Int) (x4_1 : Int), v3 = .int .i64 x3_1 ∧ v4 = .int .i64 x4_1 ∧ Aside0 (spec_l01New.l0 kq l0 x3_1 x4_1 = some (r1, r2, r3)) ∧ Aside0 (kq ≤ k) ∧ Aside0 (Below w0.heap.size w0 w') ∧ Aside0 (Below w.heap.size w w'))
 case atStart => exact ⟨(wrap64 (95501 + (l0.length : Int))), (0), rf_, rf_, H', ⟨Nat.le_refl _⟩, ⟨bl_⟩, ⟨by repeat (first | (with_reducible first | exact HBW.out | apply below_alloc | apply pw_below_drewN | apply below_drew1) | exact HBW.out)⟩⟩
 case round =>
  clear H'
  obtain ⟨x3_1, x4_1, rfl, rfl, HA, HK1, HB, HBW⟩ := hrel
  cases gk with
  | zero => exact absurd HA.out (by simp [spec_l01New.l0])
  | succ k1 =>
   have H := HA.out
   clear HA
   simp only [spec_l01New.l0] at H
   by_cases c2 : x4_1 < (l0.length : Int)
   ·rw [if_pos c2] at H
    have c2b0 : decide (x4_1 < (l0.length : Int)) = true := decide_eq_true c2
    clear c2
    by_cases c3 : x4_1 < 4000
    ·rw [if_pos c3] at H
     have c3b0 : decide (x4_1 < 4000) = true := decide_eq_true c3
     clear c3
     obtain ⟨c4b0, H⟩ := ifd_ H
     have H' := aa_ H
     clear H
     have p192 : 0 ≤ (x4_1 : Int) := od_
     have q192 : x4_1 < (l0.length : Int) := od_
     obtain ⟨ad192, e192, hx192_0⟩ := Kd.at_int HR0.out x4_1 p192 q192
     cases e192
     replace hx192_0 := pw_cell_below HB.out hx192_0
     replace p192 := eq_true p192
     replace q192 := eq_true q192
     go_wp2
     go_roundg k1
     case measure => have := HK1.out; omega
     case rel => exact ⟨(Go.bits .and .i64 (wrap64 ((wrap64 ((wrap64 (x3_1 * 131)) + (wrap64 (rd l0 x4_1)))) + 7)) 1073741823), (wrap64 (x4_1 + 1)), rf_, rf_, H', ⟨by have := HK1.out; omega⟩, ⟨bl_⟩, ⟨by repeat (first | (with_reducible first | exact HBW.out | apply below_alloc | apply pw_below_drewN | apply below_drew1) | exact HBW.out)⟩⟩
    ·rw [if_neg c3] at H
     have c3b0 : decide (x4_1 < 4000) = false := decide_eq_false c3
     clear c3
     simp only [Option.some.injEq, Prod.mk.injEq] at H
     obtain ⟨rfl, rfl, rfl⟩ := H
     go_wp2_with (first | ((with_reducible refine gD_ 31 rfl ?_); refine bx_ (N := 31) (cs := #[.slice A0 l0.length c0, .int .i64 0, .int .i64 x3_1]) (t := 69) ?_; intro gb193 hg w5 hbox hb; replace HB := hbs_ hb; have BK193 := aa_ (hbox); have GW193 := aa_ ((by rw [hg]; exact (below_size (by repeat (first | (with_reducible first | exact HBW.out | apply below_alloc | apply pw_below_drewN | apply below_drew1) | exact HBW.out))) : w.heap.size ≤ gb193)); have GE193 := aa_ ((Nat.le_trans HW0.out (by rw [hg]; exact (below_size (by repeat (first | (with_reducible first | exact HBW.out | apply below_alloc | apply pw_below_drewN | apply below_drew1) | exact HBW.out))) : w.heap.size ≤ gb193) : w0.heap.size ≤ gb193)); replace HBW := aa_ (below_step HBW.out hb); clear hb hbox hg))
     go_ret
     exact ⟨_, rfl, (show IsS69 w0 _ gb193 l0 0 x3_1 from ⟨_, _, by (with_reducible repeat (first | refine blk_drewN ?_ _ | refine blk_drew ?_ | refine blk_alloc ?_ _)); exact BK193.out, GE193.out, HR0.out⟩), bl_, by repeat (first | (with_reducible first | exact HBW.out | apply below_alloc | apply pw_below_drewN | apply below_drew1 | refine below_set ?_ GW193.out) | exact HBW.out)⟩
   ·rw [if_neg c2] at H
    have c2b0 : decide (x4_1 < (l0.length : Int)) = false := decide_eq_false c2
    clear c2
    simp only [Option.some.injEq, Prod.mk.injEq] at H
    obtain ⟨rfl, rfl, rfl⟩ := H
    go_wp2_with (first | ((with_reducible refine gD_ 31 rfl ?_); refine bx_ (N := 31) (cs := #[.slice A0 l0.length c0, .int .i64 0, .int .i64 x3_1]) (t := 69) ?_; intro gb194 hg w6 hbox hb; replace HB := hbs_ hb; have BK194 := aa_ (hbox); have GW194 := aa_ ((by rw [hg]; exact (below_size (by repeat (first | (with_reducible first | exact HBW.out | apply below_alloc | apply pw_below_drewN | apply below_drew1) | exact HBW.out))) : w.heap.size ≤ gb194)); have GE194 := aa_ ((Nat.le_trans HW0.out (by rw [hg]; exact (below_size (by repeat (first | (with_reducible first | exact HBW.out | apply below_alloc | apply pw_below_drewN | apply below_drew1) | exact HBW.out))) : w.heap.size ≤ gb194) : w0.heap.size ≤ gb194)); replace HBW := aa_ (below_step HBW.out hb); clear hb hbox hg))
    go_ret
    exact ⟨_, rfl, (show IsS69 w0 _ gb194 l0 0 x3_1 from ⟨_, _, by (with_reducible repeat (first | refine blk_drewN ?_ _ | refine blk_drew ?_ | refine blk_alloc ?_ _)); exact BK194.out, GE194.out, HR0.out⟩), bl_, by repeat (first | (with_reducible first | exact HBW.out | apply below_alloc | apply pw_below_drewN | apply below_drew1 | refine below_set ?_ GW194.out) | exact HBW.out)⟩
def spec_DrawWords.f (k : Nat) (l0 : List Int) : Option ((List (S46))) := (spec_l01New.f k l0).bind fun bt195 => ((spec_l06Creds.f k bt195.1 bt195.2.1 bt195.2.2).bind fun bt199 => (some bt199.1))
set_option maxHeartbeats 8000000 in
set_option maxRecDepth 100000 in
theorem spec_DrawWords.calls (k : Nat) (A0 : Option Addr) (c0 : Nat) (l0 : List Int) (r : List (S46)) (w : World) (hr0 : Kd.C (Kd.int .u8) w A0 l0.length l0) (hc0 : l0.length ≤ c0) (h : spec_DrawWords.f k l0 = some r) :
  Calls Try.prog 5 #[.slice A0 l0.length c0] w fun e w' => ∃ v0_ : Value, e = .returned (v0_) ∧ Kd.R k46 46 w' w.heap.size (fun _ => True) v0_ r ∧ Below w.heap.size w w' := by
 have HR0 := aa_ hr0
 have HC0 := aa_ hc0
 clear hr0 hc0
 have HB := aa_ (Below.refl w.heap.size w)
 have H : ((spec_l01New.f k l0).bind fun bt195 => ((spec_l06Creds.f k bt195.1 bt195.2.1 bt195.2.2).bind fun bt199 => (some bt199.1))) = some r := h
 clear h
 obtain ⟨⟨t195, t196, t197⟩, A2, H⟩ := bindE_ H
 (try dsimp only at H)
 obtain ⟨⟨t199, t202, t203⟩, A3, H⟩ := bindE_ H
 (try dsimp only at H)
 obtain rfl := Option.some.inj H
 go_enter Try.func5, Try.ntmps5
 go_wp2_with (first | ((with_reducible refine gC_ 20 rfl ?_); refine goesC_ (some 4) Try.func20 #[.slice A0 l0.length c0] ?_; (with_reducible refine (spec_l01New.calls k _ _ l0 t195 t196 t197 w _ ?side1 ?side2 ?side3 A2.out).mono ?_); (case side1 => repeat (first | (with_reducible first | exact HB.out | apply below_alloc | apply pw_below_drewN | apply below_drew1) | exact HB.out)); (case side2 => exact HR0.out); (case side3 => exact HC0.out); rintro e w4 ⟨g198, rfl, hi, hb, hb2⟩; refine ⟨_, rfl, ?_⟩; replace HB := aa_ (hb); have HI198 := aa_ (hi); (try clear hb hb2 hi)) | ((with_reducible refine gC_ 19 rfl ?_); refine goesC_ (some 5) Try.func19 #[.pointer (some ⟨g198, 0, none⟩)] ?_; (with_reducible refine (spec_l06Creds.calls k g198 t195 t196 t197 t199 t202 t203 w _ ?side1 ?side2 A3.out).mono ?_); (case side1 => exact IsS69.nw_); (case side2 => repeat (first | (with_reducible first | exact HB.out | apply below_alloc | apply pw_below_drewN | apply below_drew1 | refine below_set ?_ (IsS69.ge HI198.out)) | exact HB.out)); rintro e w5 ⟨v200, rfl, ho0, hi, hb, hk⟩; refine ⟨_, rfl, ?_⟩; have HO201 := aa_ (Kd.R_lower ho0 (below_size (by repeat (first | (with_reducible first | exact HB.out | apply below_alloc | apply pw_below_drewN | apply below_drew1 | refine below_set ?_ (IsS69.ge HI198.out)) | exact HB.out)))); replace HB := aa_ (hb); replace HI198 := aa_ (hi); (try clear hb hk hi ho0)))
 go_ret
 exact ⟨_, eq_, by (with_reducible repeat (first | apply Kd.R_alloc | apply Kd.R_drewN | apply Kd.R_drew)); exact HO201.out, by repeat (first | (with_reducible first | exact HB.out | apply below_alloc | apply pw_below_drewN | apply below_drew1 | refine below_set ?_ (IsS69.ge HI198.out)) | exact HB.out)⟩
end Go.Proofs.Ytcbhmcpdnokbiaa.PA
