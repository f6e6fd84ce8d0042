import Derived.Test.YtnoklfpnmopkpaaKPPEx5
-- printed by wip/tools
namespace Go.Proofs.Ytnoklfpnmopkpaa.PE
open Go.RowKit Go.Proofs.YtnoklfpnmopkpaaW.PrintWords Go.Proofs.YtnoklfpnmopkpaaW.PrintLast Go.Proofs.YtnoklfpnmopkpaaW.PrintMore
attribute [local go_sem] max2_int min2_int max_two min_two max_three min_three max_four min_four
set_option linter.unusedVariables false
set_option linter.unusedSimpArgs false
def spec_l21Any.f (k : Nat) (s0_0 : List Int) (s0_1 : Int) (s0_2 : Int) : Option ((List (S57)) × Int × Int) := (spec_l01Below.f s0_0 s0_1 s0_2 10).bind fun bt159 => ((spec_l01Below.f s0_0 bt159.2.1 bt159.2.2 60).bind fun bt162 => ((spec_l21Policy.f k s0_0 bt162.2.1 bt162.2.2 4).bind fun bt165 => (if (bt165.1.length : Int) = 0 then (none) else (if bt159.1 = 0 then (if 0 ≤ (Int.tmod bt162.1 (bt165.1.length : Int)) then (if (Int.tmod bt162.1 (bt165.1.length : Int)) < (bt165.1.length : Int) then (some ((bt165.1.set ((Int.tmod bt162.1 (bt165.1.length : Int)) : Int).toNat (⟨Int.tmod bt162.1 6, (⟨(rd_T57 bt165.1 (Int.tmod bt162.1 (bt165.1.length : Int))).f1.f0, (rd_T57 bt165.1 (Int.tmod bt162.1 (bt165.1.length : Int))).f1.f1⟩ : S55), (rd_T57 bt165.1 (Int.tmod bt162.1 (bt165.1.length : Int))).f2, (rd_T57 bt165.1 (Int.tmod bt162.1 (bt165.1.length : Int))).f3⟩ : S57)), bt165.2.1, bt165.2.2)) else (none)) else (none)) else (if bt159.1 = 1 then (if 0 ≤ (Int.tmod bt162.1 (bt165.1.length : Int)) then (if (Int.tmod bt162.1 (bt165.1.length : Int)) < (bt165.1.length : Int) then (some ((bt165.1.set ((Int.tmod bt162.1 (bt165.1.length : Int)) : Int).toNat (⟨(rd_T57 bt165.1 (Int.tmod bt162.1 (bt165.1.length : Int))).f0, (⟨(rd_T57 bt165.1 (Int.tmod bt162.1 (bt165.1.length : Int))).f1.f0, (rd_T57 bt165.1 (Int.tmod bt162.1 (bt165.1.length : Int))).f1.f1⟩ : S55), wrap64 ((Int.tmod bt162.1 9) - 1), (rd_T57 bt165.1 (Int.tmod bt162.1 (bt165.1.length : Int))).f3⟩ : S57)), bt165.2.1, bt165.2.2)) else (none)) else (none)) else (if bt159.1 = 2 then (if 0 ≤ (Int.tmod bt162.1 (bt165.1.length : Int)) then (if (Int.tmod bt162.1 (bt165.1.length : Int)) < (bt165.1.length : Int) then (some ((bt165.1.set ((Int.tmod bt162.1 (bt165.1.length : Int)) : Int).toNat (⟨(rd_T57 bt165.1 (Int.tmod bt162.1 (bt165.1.length : Int))).f0, (⟨Int.tmod bt162.1 8, (rd_T57 bt165.1 (Int.tmod bt162.1 (bt165.1.length : Int))).f1.f1⟩ : S55), (rd_T57 bt165.1 (Int.tmod bt162.1 (bt165.1.length : Int))).f2, (rd_T57 bt165.1 (Int.tmod bt162.1 (bt165.1.length : Int))).f3⟩ : S57)), bt165.2.1, bt165.2.2)) else (none)) else (none)) else (if bt159.1 = 3 then (some ((([] : List (S57))), bt165.2.1, bt165.2.2)) else (some (bt165.1, bt165.2.1, bt165.2.2)))))))))
set_option maxHeartbeats 8000000 in
set_option maxRecDepth 100000 in
theorem spec_l21Any.calls (k : Nat) (g : Nat) (s0_0 : List Int) (s0_1 : Int) (s0_2 : Int) (r1 : List (S57)) (r2 : Int) (r3 : Int) (w0 w : World) (hI : IsS71 w0 w g s0_0 s0_1 s0_2) (hB : Below w0.heap.size w0 w) (h : spec_l21Any.f k s0_0 s0_1 s0_2 = some (r1, r2, r3)) :
  Calls Try.prog 26 #[.pointer (some ⟨g, 0, none⟩)] w fun e w' => ∃ v0_ : Value, e = .returned (.agg #[v0_]) ∧ Kd.R k57 57 w' w.heap.size (fun _ => True) v0_ r1 ∧ IsS71 w0 w' g s0_0 r2 r3 ∧ Below w0.heap.size w0 w' ∧ KeepBut w w' g none := by
 have hu27 := Try.underlying27
 have HI0 := aa_ hI
 have HK := aa_ (KeepBut.refl w g none)
 have HL := aa_ hB.size
 clear hI
 have HW0 := aa_ hB.size
 have HB := aa_ hB
 clear hB
 have H : ((spec_l01Below.f s0_0 s0_1 s0_2 10).bind fun bt159 => ((spec_l01Below.f s0_0 bt159.2.1 bt159.2.2 60).bind fun bt162 => ((spec_l21Policy.f k s0_0 bt162.2.1 bt162.2.2 4).bind fun bt165 => (if (bt165.1.length : Int) = 0 then (none) else (if bt159.1 = 0 then (if 0 ≤ (Int.tmod bt162.1 (bt165.1.length : Int)) then (if (Int.tmod bt162.1 (bt165.1.length : Int)) < (bt165.1.length : Int) then (some ((bt165.1.set ((Int.tmod bt162.1 (bt165.1.length : Int)) : Int).toNat (⟨Int.tmod bt162.1 6, (⟨(rd_T57 bt165.1 (Int.tmod bt162.1 (bt165.1.length : Int))).f1.f0, (rd_T57 bt165.1 (Int.tmod bt162.1 (bt165.1.length : Int))).f1.f1⟩ : S55), (rd_T57 bt165.1 (Int.tmod bt162.1 (bt165.1.length : Int))).f2, (rd_T57 bt165.1 (Int.tmod bt162.1 (bt165.1.length : Int))).f3⟩ : S57)), bt165.2.1, bt165.2.2)) else (none)) else (none)) else (if bt159.1 = 1 then (if 0 ≤ (Int.tmod bt162.1 (bt165.1.length : Int)) then (if (Int.tmod bt162.1 (bt165.1.length : Int)) < (bt165.1.length : Int) then (some ((bt165.1.set ((Int.tmod bt162.1 (bt165.1.length : Int)) : Int).toNat (⟨(rd_T57 bt165.1 (Int.tmod bt162.1 (bt165.1.length : Int))).f0, (⟨(rd_T57 bt165.1 (Int.tmod bt162.1 (bt165.1.length : Int))).f1.f0, (rd_T57 bt165.1 (Int.tmod bt162.1 (bt165.1.length : Int))).f1.f1⟩ : S55), wrap64 ((Int.tmod bt162.1 9) - 1), (rd_T57 bt165.1 (Int.tmod bt162.1 (bt165.1.length : Int))).f3⟩ : S57)), bt165.2.1, bt165.2.2)) else (none)) else (none)) else (if bt159.1 = 2 then (if 0 ≤ (Int.tmod bt162.1 (bt165.1.length : Int)) then (if (Int.tmod bt162.1 (bt165.1.length : Int)) < (bt165.1.length : Int) then (some ((bt165.1.set ((Int.tmod bt162.1 (bt165.1.length : Int)) : Int).toNat (⟨(rd_T57 bt165.1 (Int.tmod bt162.1 (bt165.1.length : Int))).f0, (⟨Int.tmod bt162.1 8, (rd_T57 bt165.1 (Int.tmod bt162.1 (bt165.1.length : Int))).f1.f1⟩ : S55), (rd_T57 bt165.1 (Int.tmod bt162.1 (bt165.1.length : Int))).f2, (rd_T57 bt165.1 (Int.tmod bt162.1 (bt165.1.length : Int))).f3⟩ : S57)), bt165.2.1, bt165.2.2)) else (none)) else (none)) else (if bt159.1 = 3 then (some ((([] : List (S57))), bt165.2.1, bt165.2.2)) else (some (bt165.1, bt165.2.1, bt165.2.2)))))))))) = some (r1, r2, r3) := h
 clear h
 obtain ⟨⟨t159, t160, t161⟩, A2, H⟩ := bindE_ H
 replace H : ((spec_l01Below.f s0_0 t160 t161 60).bind fun bt162 => ((spec_l21Policy.f k s0_0 bt162.2.1 bt162.2.2 4).bind fun bt165 => (if (bt165.1.length : Int) = 0 then (none) else (if t159 = 0 then (if 0 ≤ (Int.tmod bt162.1 (bt165.1.length : Int)) then (if (Int.tmod bt162.1 (bt165.1.length : Int)) < (bt165.1.length : Int) then (some ((bt165.1.set ((Int.tmod bt162.1 (bt165.1.length : Int)) : Int).toNat (⟨Int.tmod bt162.1 6, (⟨(rd_T57 bt165.1 (Int.tmod bt162.1 (bt165.1.length : Int))).f1.f0, (rd_T57 bt165.1 (Int.tmod bt162.1 (bt165.1.length : Int))).f1.f1⟩ : S55), (rd_T57 bt165.1 (Int.tmod bt162.1 (bt165.1.length : Int))).f2, (rd_T57 bt165.1 (Int.tmod bt162.1 (bt165.1.length : Int))).f3⟩ : S57)), bt165.2.1, bt165.2.2)) else (none)) else (none)) else (if t159 = 1 then (if 0 ≤ (Int.tmod bt162.1 (bt165.1.length : Int)) then (if (Int.tmod bt162.1 (bt165.1.length : Int)) < (bt165.1.length : Int) then (some ((bt165.1.set ((Int.tmod bt162.1 (bt165.1.length : Int)) : Int).toNat (⟨(rd_T57 bt165.1 (Int.tmod bt162.1 (bt165.1.length : Int))).f0, (⟨(rd_T57 bt165.1 (Int.tmod bt162.1 (bt165.1.length : Int))).f1.f0, (rd_T57 bt165.1 (Int.tmod bt162.1 (bt165.1.length : Int))).f1.f1⟩ : S55), wrap64 ((Int.tmod bt162.1 9) - 1), (rd_T57 bt165.1 (Int.tmod bt162.1 (bt165.1.length : Int))).f3⟩ : S57)), bt165.2.1, bt165.2.2)) else (none)) else (none)) else (if t159 = 2 then (if 0 ≤ (Int.tmod bt162.1 (bt165.1.length : Int)) then (if (Int.tmod bt162.1 (bt165.1.length : Int)) < (bt165.1.length : Int) then (some ((bt165.1.set ((Int.tmod bt162.1 (bt165.1.length : Int)) : Int).toNat (⟨(rd_T57 bt165.1 (Int.tmod bt162.1 (bt165.1.length : Int))).f0, (⟨Int.tmod bt162.1 8, (rd_T57 bt165.1 (Int.tmod bt162.1 (bt165.1.length : Int))).f1.f1⟩ : S55), (rd_T57 bt165.1 (Int.tmod bt162.1 (bt165.1.length : Int))).f2, (rd_T57 bt165.1 (Int.tmod bt162.1 (bt165.1.length : Int))).f3⟩ : S57)), bt165.2.1, bt165.2.2)) else (none)) else (none)) else (if t159 = 3 then (some ((([] : List (S57))), bt165.2.1, bt165.2.2)) else (some (bt165.1, bt165.2.1, bt165.2.2))))))))) = some (r1, r2, r3) := H
 obtain ⟨⟨t162, t163, t164⟩, A3, H⟩ := bindE_ H
 replace H : ((spec_l21Policy.f k s0_0 t163 t164 4).bind fun bt165 => (if (bt165.1.length : Int) = 0 then (none) else (if t159 = 0 then (if 0 ≤ (Int.tmod t162 (bt165.1.length : Int)) then (if (Int.tmod t162 (bt165.1.length : Int)) < (bt165.1.length : Int) then (some ((bt165.1.set ((Int.tmod t162 (bt165.1.length : Int)) : Int).toNat (⟨Int.tmod t162 6, (⟨(rd_T57 bt165.1 (Int.tmod t162 (bt165.1.length : Int))).f1.f0, (rd_T57 bt165.1 (Int.tmod t162 (bt165.1.length : Int))).f1.f1⟩ : S55), (rd_T57 bt165.1 (Int.tmod t162 (bt165.1.length : Int))).f2, (rd_T57 bt165.1 (Int.tmod t162 (bt165.1.length : Int))).f3⟩ : S57)), bt165.2.1, bt165.2.2)) else (none)) else (none)) else (if t159 = 1 then (if 0 ≤ (Int.tmod t162 (bt165.1.length : Int)) then (if (Int.tmod t162 (bt165.1.length : Int)) < (bt165.1.length : Int) then (some ((bt165.1.set ((Int.tmod t162 (bt165.1.length : Int)) : Int).toNat (⟨(rd_T57 bt165.1 (Int.tmod t162 (bt165.1.length : Int))).f0, (⟨(rd_T57 bt165.1 (Int.tmod t162 (bt165.1.length : Int))).f1.f0, (rd_T57 bt165.1 (Int.tmod t162 (bt165.1.length : Int))).f1.f1⟩ : S55), wrap64 ((Int.tmod t162 9) - 1), (rd_T57 bt165.1 (Int.tmod t162 (bt165.1.length : Int))).f3⟩ : S57)), bt165.2.1, bt165.2.2)) else (none)) else (none)) else (if t159 = 2 then (if 0 ≤ (Int.tmod t162 (bt165.1.length : Int)) then (if (Int.tmod t162 (bt165.1.length : Int)) < (bt165.1.length : Int) then (some ((bt165.1.set ((Int.tmod t162 (bt165.1.length : Int)) : Int).toNat (⟨(rd_T57 bt165.1 (Int.tmod t162 (bt165.1.length : Int))).f0, (⟨Int.tmod t162 8, (rd_T57 bt165.1 (Int.tmod t162 (bt165.1.length : Int))).f1.f1⟩ : S55), (rd_T57 bt165.1 (Int.tmod t162 (bt165.1.length : Int))).f2, (rd_T57 bt165.1 (Int.tmod t162 (bt165.1.length : Int))).f3⟩ : S57)), bt165.2.1, bt165.2.2)) else (none)) else (none)) else (if t159 = 3 then (some ((([] : List (S57))), bt165.2.1, bt165.2.2)) else (some (bt165.1, bt165.2.1, bt165.2.2)))))))) = some (r1, r2, r3) := H
 obtain ⟨⟨t165, t168, t169⟩, A4, H⟩ := bindE_ H
 replace H : (if (t165.length : Int) = 0 then (none) else (if t159 = 0 then (if 0 ≤ (Int.tmod t162 (t165.length : Int)) then (if (Int.tmod t162 (t165.length : Int)) < (t165.length : Int) then (some ((t165.set ((Int.tmod t162 (t165.length : Int)) : Int).toNat (⟨Int.tmod t162 6, (⟨(rd_T57 t165 (Int.tmod t162 (t165.length : Int))).f1.f0, (rd_T57 t165 (Int.tmod t162 (t165.length : Int))).f1.f1⟩ : S55), (rd_T57 t165 (Int.tmod t162 (t165.length : Int))).f2, (rd_T57 t165 (Int.tmod t162 (t165.length : Int))).f3⟩ : S57)), t168, t169)) else (none)) else (none)) else (if t159 = 1 then (if 0 ≤ (Int.tmod t162 (t165.length : Int)) then (if (Int.tmod t162 (t165.length : Int)) < (t165.length : Int) then (some ((t165.set ((Int.tmod t162 (t165.length : Int)) : Int).toNat (⟨(rd_T57 t165 (Int.tmod t162 (t165.length : Int))).f0, (⟨(rd_T57 t165 (Int.tmod t162 (t165.length : Int))).f1.f0, (rd_T57 t165 (Int.tmod t162 (t165.length : Int))).f1.f1⟩ : S55), wrap64 ((Int.tmod t162 9) - 1), (rd_T57 t165 (Int.tmod t162 (t165.length : Int))).f3⟩ : S57)), t168, t169)) else (none)) else (none)) else (if t159 = 2 then (if 0 ≤ (Int.tmod t162 (t165.length : Int)) then (if (Int.tmod t162 (t165.length : Int)) < (t165.length : Int) then (some ((t165.set ((Int.tmod t162 (t165.length : Int)) : Int).toNat (⟨(rd_T57 t165 (Int.tmod t162 (t165.length : Int))).f0, (⟨Int.tmod t162 8, (rd_T57 t165 (Int.tmod t162 (t165.length : Int))).f1.f1⟩ : S55), (rd_T57 t165 (Int.tmod t162 (t165.length : Int))).f2, (rd_T57 t165 (Int.tmod t162 (t165.length : Int))).f3⟩ : S57)), t168, t169)) else (none)) else (none)) else (if t159 = 3 then (some ((([] : List (S57))), t168, t169)) else (some (t165, t168, t169))))))) = some (r1, r2, r3) := H
 by_cases c5 : (t165.length : Int) = 0
 ·rw [if_pos c5] at H
  exact absurd H (by simp)
 ·rw [if_neg c5] at H
  have c5b0 : ((t165.length : Int) == 0) = false := beq_eq_false_iff_ne.mpr c5
  have c5b1 : ((t165.length : Int) != 0) = true := bne_iff_ne.mpr c5
  have c5b2 : ¬ (t165 = []) := fun h_ => c5 (by rw [h_]; rfl)
  have HC6 := aa_ H
  clear H
  go_enter Try.func26, Try.ntmps26
  go_upto_if 19 with (first | ((with_reducible refine gD_ 2 rfl ?_); refine bx_ (N := 2) (cs := #[.slice none 0 0]) (t := 27) ?_; intro gb158 hg w7 hbox hb; replace HB := aa_ (below_step (by exact IsS71.bw_) hb); have BK158 := aa_ (hbox); have GW158 := aa_ ((by rw [hg]; exact (keep_size (w := w) (g := g) (row := none) (by exact kp_)) : w.heap.size ≤ gb158)); have GE158 := aa_ ((Nat.le_trans HW0.out (by rw [hg]; exact (keep_size (w := w) (g := g) (row := none) (by exact kp_)) : w.heap.size ≤ gb158) : w0.heap.size ≤ gb158)); replace HK := aa_ (KeepBut.trans (by exact kp_) (KeepBut.of_below hb g none) (.inl rfl)); have NB0_158 := aa_ ((by rw [hg]; exact Nat.ne_of_lt (IsS71.lt (show IsS71 w0 _ g s0_0 s0_1 s0_2 from by exact IsS71.nw_)) : g ≠ gb158)); have NB158_0 := aa_ ((by rw [hg]; exact Nat.ne_of_gt (IsS71.lt (show IsS71 w0 _ g s0_0 s0_1 s0_2 from by exact IsS71.nw_)) : gb158 ≠ g)); replace HI0 := aa_ (IsS71.below (by exact IsS71.nw_) hb); clear hb hbox hg) | ((with_reducible refine gC_ 25 rfl ?_); refine goesC_ (some 8) Try.func25 #[.pointer (some ⟨g, 0, none⟩), .int .i64 10] ?_; (with_reducible refine (spec_l01Below.calls g s0_0 s0_1 s0_2 10 t159 t160 t161 w0 _ ?side1 ?side2 A2.out).mono ?_); (case side1 => exact IsS71.nw_); (case side2 => exact IsS71.bw_); rintro e w8 ⟨rfl, hi, hb, hk⟩; refine ⟨_, rfl, ?_⟩; replace BK158 := aa_ (KeepBut.blk hk (g' := gb158) (o := .cells #[.slice none 0 0] 27 (0, 0)) (bk_ BK158) NB158_0.out (by simp)); replace HK := aa_ (KeepBut.trans (by exact kp_) hk (.inl rfl)); replace HB := aa_ (hb); replace HI0 := aa_ (hi); (try clear hb hk hi)) | ((with_reducible refine gC_ 25 rfl ?_); refine goesC_ (some 10) Try.func25 #[.pointer (some ⟨g, 0, none⟩), .int .i64 60] ?_; (with_reducible refine (spec_l01Below.calls g s0_0 t160 t161 60 t162 t163 t164 w0 _ ?side1 ?side2 A3.out).mono ?_); (case side1 => exact IsS71.nw_); (case side2 => exact IsS71.bw_); rintro e w9 ⟨rfl, hi, hb, hk⟩; refine ⟨_, rfl, ?_⟩; replace BK158 := aa_ (KeepBut.blk hk (g' := gb158) (o := .cells #[.slice none 0 0] 27 (0, 0)) (bk_ BK158) NB158_0.out (by simp)); replace HK := aa_ (KeepBut.trans (by exact kp_) hk (.inl rfl)); replace HB := aa_ (hb); replace HI0 := aa_ (hi); (try clear hb hk hi)) | ((with_reducible refine gC_ 29 rfl ?_); refine goesC_ (some 12) Try.func29 #[.pointer (some ⟨g, 0, none⟩), .int .i64 4] ?_; (with_reducible refine (spec_l21Policy.calls k g s0_0 t163 t164 4 t165 t168 t169 w0 _ ?side1 ?side2 A4.out).mono ?_); (case side1 => exact IsS71.nw_); (case side2 => exact IsS71.bw_); rintro e w10 ⟨v166, rfl, ho0, hi, hb, hk⟩; refine ⟨_, rfl, ?_⟩; replace BK158 := aa_ (KeepBut.blk hk (g' := gb158) (o := .cells #[.slice none 0 0] 27 (0, 0)) (bk_ BK158) NB158_0.out (by simp)); have HO167 := aa_ (Kd.R_lower ho0 (keep_size (w := w) (g := g) (row := none) (by exact kp_))); replace HK := aa_ (KeepBut.trans (by exact kp_) hk (.inl rfl)); replace HB := aa_ (hb); replace HI0 := aa_ (hi); (try clear hb hk hi ho0)) | ((with_reducible refine gD_ 5 rfl ?_); refine bx_ (N := 5) (cs := #[.slice none 0 0]) (t := 27) ?_; intro gb170 hg w11 hbox hb; replace HO167 := hob_ HO167 hb; replace HB := aa_ (below_step (by exact IsS71.bw_) hb); have BK170 := aa_ (hbox); have GW170 := aa_ ((by rw [hg]; exact (keep_size (w := w) (g := g) (row := none) (by exact kp_)) : w.heap.size ≤ gb170)); have GE170 := aa_ ((Nat.le_trans HW0.out (by rw [hg]; exact (keep_size (w := w) (g := g) (row := none) (by exact kp_)) : w.heap.size ≤ gb170) : w0.heap.size ≤ gb170)); replace HK := aa_ (KeepBut.trans (by exact kp_) (KeepBut.of_below hb g none) (.inl rfl)); have NB158_170 := nl_ hg BK158; have NB170_158 := nr_ hg BK158; replace BK158 := bkb_ BK158 hb; have NB0_170 := aa_ ((by rw [hg]; exact Nat.ne_of_lt (IsS71.lt (show IsS71 w0 _ g s0_0 t168 t169 from by exact IsS71.nw_)) : g ≠ gb170)); have NB170_0 := aa_ ((by rw [hg]; exact Nat.ne_of_gt (IsS71.lt (show IsS71 w0 _ g s0_0 t168 t169 from by exact IsS71.nw_)) : gb170 ≠ g)); replace HI0 := aa_ (IsS71.below (by exact IsS71.nw_) hb); clear hb hbox hg; obtain ⟨Ao12, co12, eo12⟩ := Kd.R_slice HO167.out; subst eo12; have hnb13 := NB170_158.out; have hnc13 := NB158_170.out; have hnb14 := NB170_0.out; have hnc14 := NB0_170.out; obtain ⟨hcz15, hfz15⟩ := bcf_ BK170))
  have n0_ : Aside0 (Kd.R k57 57 (w11.setCell ⟨gb170, 0, none⟩ (.slice Ao12 t165.length co12)) w.heap.size (fun _ => True) (.slice Ao12 t165.length co12) t165) := ⟨by (with_reducible repeat (first | apply Kd.R_alloc | apply Kd.R_drewN | apply Kd.R_drew)); exact Kd.R_mono (Kd.R_far (p := ⟨gb170, 0, none⟩) (Kd.R_types HO167.out BK170.out (by decide)) (fun _ hk => hk.2) (.slice Ao12 t165.length co12)) (fun _ hk => trivial)⟩
  have n1_ : Aside0 ((w11.setCell ⟨gb170, 0, none⟩ (.slice Ao12 t165.length co12)).heap[gb158]? = some (.cells #[.slice none 0 0] 27 (0, 0))) := ⟨bk_ BK158⟩
  have n2_ : Aside0 ((w11.setCell ⟨gb170, 0, none⟩ (.slice Ao12 t165.length co12)).heap[gb170]? = some (.cells #[.slice Ao12 t165.length co12] 27 (0, 0))) := ⟨bk_ BK170⟩
  have n3_ : Aside0 (IsS71 w0 (w11.setCell ⟨gb170, 0, none⟩ (.slice Ao12 t165.length co12)) g s0_0 t168 t169) := ⟨by exact IsS71.nw_⟩
  have n4_ : Aside0 (KeepBut w (w11.setCell ⟨gb170, 0, none⟩ (.slice Ao12 t165.length co12)) g none) := ⟨by exact kp_⟩
  have n5_ : Aside0 (Below w0.heap.size w0 (w11.setCell ⟨gb170, 0, none⟩ (.slice Ao12 t165.length co12))) := ⟨by exact IsS71.bw_⟩
  (try clear HO167)
  (try clear BK158)
  (try clear BK170)
  (try clear HI0)
  (try clear HK)
  (try clear HB)
  generalize (w11.setCell ⟨gb170, 0, none⟩ (.slice Ao12 t165.length co12)) = w16 at n0_ n1_ n2_ n3_ n4_ n5_ ⊢
  have HO167 := n0_
  have BK158 := n1_
  have BK170 := n2_
  have HI0 := n3_
  have HK := n4_
  have HB := n5_
  clear n0_ n1_ n2_ n3_ n4_ n5_
  (try simp only [Act.put, List.setIfInBounds_toArray, List.set_cons_zero, List.set_cons_succ])
  have H := HC6.out
  clear HC6
  by_cases c17 : t159 = 0
  ·rw [if_pos c17] at H
   have c17b0 : (t159 == 0) = true := beq_iff_eq.mpr c17
   have c17b1 : (t159 != 0) = false := bne_eq_false_iff_eq.mpr c17
   clear c17
   (first | rw [c17b0] | (simp only [i64_w, i32_w]; rw [c17b0]) | skip)
   obtain ⟨ji18, hji18⟩ : ∃ j_ : Int, (Int.tmod t162 (t165.length : Int)) = j_ := ⟨_, rfl⟩
   replace H : (if 0 ≤ (ji18) then (if (ji18) < (t165.length : Int) then (some ((t165.set ((ji18) : Int).toNat (⟨Int.tmod t162 6, (⟨(rd_T57 t165 (ji18)).f1.f0, (rd_T57 t165 (ji18)).f1.f1⟩ : S55), (rd_T57 t165 (ji18)).f2, (rd_T57 t165 (ji18)).f3⟩ : S57)), t168, t169)) else (none)) else (none)) = some (r1, r2, r3) := by first | (rw [hji18] at H; exact H) | (simp only [hji18] at H ⊢; exact H)
   obtain ⟨c19b0, H⟩ := ifd_ H
   obtain ⟨c20b0, H⟩ := ifd_ H
   obtain ⟨y171, hy171⟩ : ∃ y_ : List (S57), y_ = (t165.set ((ji18) : Int).toNat (⟨Int.tmod t162 6, (⟨(rd_T57 t165 (ji18)).f1.f0, (rd_T57 t165 (ji18)).f1.f1⟩ : S55), (rd_T57 t165 (ji18)).f2, (rd_T57 t165 (ji18)).f3⟩ : S57)) := ⟨_, rfl⟩
   replace H : (some (y171, t168, t169)) = some (r1, r2, r3) := rh_ hy171 H
   have Ny171 := aa_ hy171
   clear hy171
   simp only [Option.some.injEq, Prod.mk.injEq] at H
   obtain ⟨rfl, rfl, rfl⟩ := H
   have hnb22 := NB170_158.out
   have hnc22 := NB158_170.out
   have hnb23 := NB170_0.out
   have hnc23 := NB0_170.out
   have hcz24 := blk_cell BK170.out
   have hfz24 := blk_frozen BK170.out
   have p21 : 0 ≤ ((ji18) : Int) := od_
   have q21 : ((ji18) : Int) < ((t165.length : Int) : Int) := od_
   obtain ⟨go21, co21, eo21, gb21, gl21, cl21, HG21⟩ := Kd.R_form HO167.out (by omega)
   (first | cases eo21 | (injection eo21 with ea_ en_ ec_; (first | subst ea_ | (injection ea_ with ea_; subst ea_)); subst ec_; clear en_))
   have GB21 := aa_ gb21
   have GG21 := aa_ HG21
   clear gb21 gl21 HG21
   obtain ⟨ce21, hcl21, hM21, hcc21, hfr21⟩ := Kd.R_elem HO167.out z57 ((ji18) : Int) p21 q21
   obtain rfl := k57_openM hM21
   have hx21_0 : w16.cell? ⟨go21, ((ji18) : Int).toNat * 5, none⟩ = some (.int .i64 ((rd_T57 t165 (ji18)).f0)) := hcc21 0 _ rfl
   have hx21_1 : w16.cell? ⟨go21, ((ji18) : Int).toNat * 5 + 1, none⟩ = some (.int .i64 ((rd_T57 t165 (ji18)).f1.f0)) := hcc21 1 _ rfl
   have hx21_2 : w16.cell? ⟨go21, ((ji18) : Int).toNat * 5 + 2, none⟩ = some (.int .i64 ((rd_T57 t165 (ji18)).f1.f1)) := hcc21 2 _ rfl
   have hx21_3 : w16.cell? ⟨go21, ((ji18) : Int).toNat * 5 + 3, none⟩ = some (.int .i64 ((rd_T57 t165 (ji18)).f2)) := hcc21 3 _ rfl
   have hx21_4 : w16.cell? ⟨go21, ((ji18) : Int).toNat * 5 + 4, none⟩ = some (.int .i64 ((rd_T57 t165 (ji18)).f3)) := hcc21 4 _ rfl
   have hf21_0 : w16.frozen? ⟨go21, ((ji18) : Int).toNat * 5, none⟩ = false := hfr21 0
   have hf21_1 : w16.frozen? ⟨go21, ((ji18) : Int).toNat * 5 + 1, none⟩ = false := hfr21 1
   have hf21_2 : w16.frozen? ⟨go21, ((ji18) : Int).toNat * 5 + 2, none⟩ = false := hfr21 2
   have hf21_3 : w16.frozen? ⟨go21, ((ji18) : Int).toNat * 5 + 3, none⟩ = false := hfr21 3
   have hf21_4 : w16.frozen? ⟨go21, ((ji18) : Int).toNat * 5 + 4, none⟩ = false := hfr21 4
   clear hcl21 hcc21 hfr21 hM21
   replace p21 := eq_true p21
   replace q21 := eq_true q21
   have HX25 := aa_ (show Kd.R k57 57 w16 w.heap.size (fun _ => True) (.slice (some ⟨go21, 0, none⟩) t165.length co12) t165 from (rr_ HO167))
   obtain ⟨ce25, hcl25, hM25, hcc25, hfr25⟩ := Kd.R_elem HX25.out z57 ((ji18) : Int) (od_) (by have h_ : ((ji18) : Int) < ((t165.length : Int) : Int) := od_; first | exact h_ | (have e_ := (Kd.R_reads' HO167.out).1; omega) | simpa using h_)
   obtain rfl := k57_openM hM25
   have HP25 := Kd.R_seg HX25.out ((ji18) : Int) (od_) (by have h_ : ((ji18) : Int) < ((t165.length : Int) : Int) := od_; first | exact h_ | (have e_ := (Kd.R_reads' HO167.out).1; omega) | simpa using h_) (seg := [.int .i64 (Int.tmod t162 6)]) (j := 0) hcl25 hcc25 (show 1 ≤ 5 from by decide) (x' := (⟨Int.tmod t162 6, (⟨(rd_T57 t165 (ji18)).f1.f0, (rd_T57 t165 (ji18)).f1.f1⟩ : S55), (rd_T57 t165 (ji18)).f2, (rd_T57 t165 (ji18)).f3⟩ : S57)) (k57_mkM _ _ _ (⟨Int.tmod t162 6, (⟨(rd_T57 t165 (ji18)).f1.f0, (rd_T57 t165 (ji18)).f1.f1⟩ : S55), (rd_T57 t165 (ji18)).f2, (rd_T57 t165 (ji18)).f3⟩ : S57) ) (fun _ hk => hk)
   have hx25_0 := hcc25 0 _ rfl
   (try simp only [show (k57).sz = 5 from rfl, Nat.mul_one, Nat.add_zero] at hx25_0)
   have hf25_0 := hfr25 0
   (try simp only [show (k57).sz = 5 from rfl, Nat.mul_one, Nat.add_zero] at hf25_0)
   clear hcl25 hcc25 hfr25 hM25
   go_wp2_with (first | ((with_reducible refine gate_store (t := 3) (p := 27) rfl ?_); refine store_event (t := 3) (p := 27) (v := ?vo_w26) (w1 := (w16.setCell ⟨go21, ((ji18) : Int).toNat * 5, none⟩ (.int .i64 (Int.tmod t162 6)))) ?hg ?ho ?hn ?hr ?_; (case ho => rfl); (case hg => rfl); (case hn => rfl); (case hr => first | (go_simp; done) | (go_simp; rfl)); intro w26 hw; have hg : w16.grownBy w26 (some go21) := (by rw [hw]; exact HP25.2); have hp_ : Kd.R k57 57 w26 w.heap.size (fun _ => True) (.slice (some ⟨go21, 0, none⟩) t165.length co12) y171 := (by rw [hw, Ny171.out]; exact HP25.1); clear HP25; replace HI0 := aa_ (IsS71.grown (show IsS71 w0 _ g s0_0 t168 t169 from by exact IsS71.nw_) hg (IsS71.own_ne HI0.out HO167.out (by decide))); replace BK158 := aa_ (blk_grown (g := gb158) (o := .cells #[.slice none 0 0] 27 (0, 0)) (bk_ BK158) hg (Kd.R_ne HO167.out BK158.out (by decide))); replace BK170 := aa_ (blk_grown (g := gb170) (o := .cells #[.slice (some ⟨go21, 0, none⟩) t165.length co12] 27 (0, 0)) (bk_ BK170) hg (Kd.R_ne HO167.out BK170.out (by decide))); replace HB := aa_ ((by rw [hw]; exact below_set (HB.out) (Nat.le_trans HL.out GB21.out) : Below w0.heap.size w0 w26)); replace HK := aa_ (KeepBut.trans (by exact kp_) (KeepBut.of_grown hg g) (Kd.R_base2 HO167.out)); replace HO167 := aa_ (hp_); clear hg hw hp_; obtain ⟨hcz27, hfz27⟩ := bcf_ BK170; have hnb28 := NB158_0.out; have hnc28 := NB0_158.out; obtain ⟨hcz29, hfz29⟩ := bcf_ BK158))
   refine bodyPost_ret (results_cell_row rfl _ _ gb158 27 #[.slice (some ⟨go21, 0, none⟩) t165.length co12] (0, 0) _ rfl (bk_ BK158) Try.underlying27 rfl (by kernel_rfl)) rfl ?_
   exact ⟨_, by first | rfl | (simp [errW_none, errW_some] <;> rfl) | (simp only [← hji18]; first | rfl | (simp [errW_none, errW_some] <;> rfl)) | (simp [*, errW_none, errW_some] <;> rfl), by (with_reducible repeat (first | apply Kd.R_alloc | apply Kd.R_drewN | apply Kd.R_drew)); exact Kd.R_mono (Kd.R_far (p := ⟨gb158, 0, none⟩) (Kd.R_types HO167.out BK158.out (by decide)) (fun _ hk => hk.2) (.slice (some ⟨go21, 0, none⟩) t165.length co12)) (fun _ hk => trivial), by exact IsS71.nw_, by exact IsS71.bw_, by exact kp_⟩
  ·rw [if_neg c17] at H
   have c17b0 : (t159 == 0) = false := beq_eq_false_iff_ne.mpr c17
   have c17b1 : (t159 != 0) = true := bne_iff_ne.mpr c17
   (first | rw [c17b0] | (simp only [i64_w, i32_w]; rw [c17b0]) | skip)
   by_cases c30 : t159 = 1
   ·rw [if_pos c30] at H
    have c30b0 : (t159 == 1) = true := beq_iff_eq.mpr c30
    have c30b1 : (t159 != 1) = false := bne_eq_false_iff_eq.mpr c30
    clear c30
    obtain ⟨ji31, hji31⟩ : ∃ j_ : Int, (Int.tmod t162 (t165.length : Int)) = j_ := ⟨_, rfl⟩
    replace H : (if 0 ≤ (ji31) then (if (ji31) < (t165.length : Int) then (some ((t165.set ((ji31) : Int).toNat (⟨(rd_T57 t165 (ji31)).f0, (⟨(rd_T57 t165 (ji31)).f1.f0, (rd_T57 t165 (ji31)).f1.f1⟩ : S55), wrap64 ((Int.tmod t162 9) - 1), (rd_T57 t165 (ji31)).f3⟩ : S57)), t168, t169)) else (none)) else (none)) = some (r1, r2, r3) := by first | (rw [hji31] at H; exact H) | (simp only [hji31] at H ⊢; exact H)
    obtain ⟨c32b0, H⟩ := ifd_ H
    obtain ⟨c33b0, H⟩ := ifd_ H
    obtain ⟨y172, hy172⟩ : ∃ y_ : List (S57), y_ = (t165.set ((ji31) : Int).toNat (⟨(rd_T57 t165 (ji31)).f0, (⟨(rd_T57 t165 (ji31)).f1.f0, (rd_T57 t165 (ji31)).f1.f1⟩ : S55), wrap64 ((Int.tmod t162 9) - 1), (rd_T57 t165 (ji31)).f3⟩ : S57)) := ⟨_, rfl⟩
    replace H : (some (y172, t168, t169)) = some (r1, r2, r3) := rh_ hy172 H
    have Ny172 := aa_ hy172
    clear hy172
    simp only [Option.some.injEq, Prod.mk.injEq] at H
    obtain ⟨rfl, rfl, rfl⟩ := H
    have hnb35 := NB170_158.out
    have hnc35 := NB158_170.out
    have hnb36 := NB170_0.out
    have hnc36 := NB0_170.out
    have hcz37 := blk_cell BK170.out
    have hfz37 := blk_frozen BK170.out
    have p34 : 0 ≤ ((ji31) : Int) := od_
    have q34 : ((ji31) : Int) < ((t165.length : Int) : Int) := od_
    obtain ⟨go34, co34, eo34, gb34, gl34, cl34, HG34⟩ := Kd.R_form HO167.out (by omega)
    (first | cases eo34 | (injection eo34 with ea_ en_ ec_; (first | subst ea_ | (injection ea_ with ea_; subst ea_)); subst ec_; clear en_))
    have GB34 := aa_ gb34
    have GG34 := aa_ HG34
    clear gb34 gl34 HG34
    obtain ⟨ce34, hcl34, hM34, hcc34, hfr34⟩ := Kd.R_elem HO167.out z57 ((ji31) : Int) p34 q34
    obtain rfl := k57_openM hM34
    have hx34_0 : w16.cell? ⟨go34, ((ji31) : Int).toNat * 5, none⟩ = some (.int .i64 ((rd_T57 t165 (ji31)).f0)) := hcc34 0 _ rfl
    have hx34_1 : w16.cell? ⟨go34, ((ji31) : Int).toNat * 5 + 1, none⟩ = some (.int .i64 ((rd_T57 t165 (ji31)).f1.f0)) := hcc34 1 _ rfl
    have hx34_2 : w16.cell? ⟨go34, ((ji31) : Int).toNat * 5 + 2, none⟩ = some (.int .i64 ((rd_T57 t165 (ji31)).f1.f1)) := hcc34 2 _ rfl
    have hx34_3 : w16.cell? ⟨go34, ((ji31) : Int).toNat * 5 + 3, none⟩ = some (.int .i64 ((rd_T57 t165 (ji31)).f2)) := hcc34 3 _ rfl
    have hx34_4 : w16.cell? ⟨go34, ((ji31) : Int).toNat * 5 + 4, none⟩ = some (.int .i64 ((rd_T57 t165 (ji31)).f3)) := hcc34 4 _ rfl
    have hf34_0 : w16.frozen? ⟨go34, ((ji31) : Int).toNat * 5, none⟩ = false := hfr34 0
    have hf34_1 : w16.frozen? ⟨go34, ((ji31) : Int).toNat * 5 + 1, none⟩ = false := hfr34 1
    have hf34_2 : w16.frozen? ⟨go34, ((ji31) : Int).toNat * 5 + 2, none⟩ = false := hfr34 2
    have hf34_3 : w16.frozen? ⟨go34, ((ji31) : Int).toNat * 5 + 3, none⟩ = false := hfr34 3
    have hf34_4 : w16.frozen? ⟨go34, ((ji31) : Int).toNat * 5 + 4, none⟩ = false := hfr34 4
    clear hcl34 hcc34 hfr34 hM34
    replace p34 := eq_true p34
    replace q34 := eq_true q34
    have HX38 := aa_ (show Kd.R k57 57 w16 w.heap.size (fun _ => True) (.slice (some ⟨go34, 0, none⟩) t165.length co12) t165 from (rr_ HO167))
    obtain ⟨ce38, hcl38, hM38, hcc38, hfr38⟩ := Kd.R_elem HX38.out z57 ((ji31) : Int) (od_) (by have h_ : ((ji31) : Int) < ((t165.length : Int) : Int) := od_; first | exact h_ | (have e_ := (Kd.R_reads' HO167.out).1; omega) | simpa using h_)
    obtain rfl := k57_openM hM38
    have HP38 := Kd.R_seg HX38.out ((ji31) : Int) (od_) (by have h_ : ((ji31) : Int) < ((t165.length : Int) : Int) := od_; first | exact h_ | (have e_ := (Kd.R_reads' HO167.out).1; omega) | simpa using h_) (seg := [.int .i64 (wrap64 ((Int.tmod t162 9) - 1))]) (j := 3) hcl38 hcc38 (show 4 ≤ 5 from by decide) (x' := (⟨(rd_T57 t165 (ji31)).f0, (⟨(rd_T57 t165 (ji31)).f1.f0, (rd_T57 t165 (ji31)).f1.f1⟩ : S55), wrap64 ((Int.tmod t162 9) - 1), (rd_T57 t165 (ji31)).f3⟩ : S57)) (k57_mkM _ _ _ (⟨(rd_T57 t165 (ji31)).f0, (⟨(rd_T57 t165 (ji31)).f1.f0, (rd_T57 t165 (ji31)).f1.f1⟩ : S55), wrap64 ((Int.tmod t162 9) - 1), (rd_T57 t165 (ji31)).f3⟩ : S57) ) (fun _ hk => hk)
    have hx38_3 := hcc38 3 _ rfl
    (try simp only [show (k57).sz = 5 from rfl, Nat.mul_one, Nat.add_zero] at hx38_3)
    have hf38_3 := hfr38 3
    (try simp only [show (k57).sz = 5 from rfl, Nat.mul_one, Nat.add_zero] at hf38_3)
    clear hcl38 hcc38 hfr38 hM38
    go_wp2_with (first | ((with_reducible refine gate_store (t := 3) (p := 37) rfl ?_); refine store_event (t := 3) (p := 37) (v := ?vo_w39) (w1 := (w16.setCell ⟨go34, ((ji31) : Int).toNat * 5 + 3, none⟩ (.int .i64 (wrap64 ((Int.tmod t162 9) - 1))))) ?hg ?ho ?hn ?hr ?_; (case ho => rfl); (case hg => rfl); (case hn => rfl); (case hr => first | (go_simp; done) | (go_simp; rfl)); intro w39 hw; have hg : w16.grownBy w39 (some go34) := (by rw [hw]; exact HP38.2); have hp_ : Kd.R k57 57 w39 w.heap.size (fun _ => True) (.slice (some ⟨go34, 0, none⟩) t165.length co12) y172 := (by rw [hw, Ny172.out]; exact HP38.1); clear HP38; replace HI0 := aa_ (IsS71.grown (show IsS71 w0 _ g s0_0 t168 t169 from by exact IsS71.nw_) hg (IsS71.own_ne HI0.out HO167.out (by decide))); replace BK158 := aa_ (blk_grown (g := gb158) (o := .cells #[.slice none 0 0] 27 (0, 0)) (bk_ BK158) hg (Kd.R_ne HO167.out BK158.out (by decide))); replace BK170 := aa_ (blk_grown (g := gb170) (o := .cells #[.slice (some ⟨go34, 0, none⟩) t165.length co12] 27 (0, 0)) (bk_ BK170) hg (Kd.R_ne HO167.out BK170.out (by decide))); replace HB := aa_ ((by rw [hw]; exact below_set (HB.out) (Nat.le_trans HL.out GB34.out) : Below w0.heap.size w0 w39)); replace HK := aa_ (KeepBut.trans (by exact kp_) (KeepBut.of_grown hg g) (Kd.R_base2 HO167.out)); replace HO167 := aa_ (hp_); clear hg hw hp_; obtain ⟨hcz40, hfz40⟩ := bcf_ BK170; have hnb41 := NB158_0.out; have hnc41 := NB0_158.out; obtain ⟨hcz42, hfz42⟩ := bcf_ BK158))
    refine bodyPost_ret (results_cell_row rfl _ _ gb158 27 #[.slice (some ⟨go34, 0, none⟩) t165.length co12] (0, 0) _ rfl (bk_ BK158) Try.underlying27 rfl (by kernel_rfl)) rfl ?_
    exact ⟨_, by first | rfl | (simp [errW_none, errW_some] <;> rfl) | (simp only [← hji31]; first | rfl | (simp [errW_none, errW_some] <;> rfl)) | (simp [*, errW_none, errW_some] <;> rfl), by (with_reducible repeat (first | apply Kd.R_alloc | apply Kd.R_drewN | apply Kd.R_drew)); exact Kd.R_mono (Kd.R_far (p := ⟨gb158, 0, none⟩) (Kd.R_types HO167.out BK158.out (by decide)) (fun _ hk => hk.2) (.slice (some ⟨go34, 0, none⟩) t165.length co12)) (fun _ hk => trivial), by exact IsS71.nw_, by exact IsS71.bw_, by exact kp_⟩
   ·rw [if_neg c30] at H
    have c30b0 : (t159 == 1) = false := beq_eq_false_iff_ne.mpr c30
    have c30b1 : (t159 != 1) = true := bne_iff_ne.mpr c30
    by_cases c43 : t159 = 2
    ·rw [if_pos c43] at H
     have c43b0 : (t159 == 2) = true := beq_iff_eq.mpr c43
     have c43b1 : (t159 != 2) = false := bne_eq_false_iff_eq.mpr c43
     clear c43
     obtain ⟨ji44, hji44⟩ : ∃ j_ : Int, (Int.tmod t162 (t165.length : Int)) = j_ := ⟨_, rfl⟩
     replace H : (if 0 ≤ (ji44) then (if (ji44) < (t165.length : Int) then (some ((t165.set ((ji44) : Int).toNat (⟨(rd_T57 t165 (ji44)).f0, (⟨Int.tmod t162 8, (rd_T57 t165 (ji44)).f1.f1⟩ : S55), (rd_T57 t165 (ji44)).f2, (rd_T57 t165 (ji44)).f3⟩ : S57)), t168, t169)) else (none)) else (none)) = some (r1, r2, r3) := by first | (rw [hji44] at H; exact H) | (simp only [hji44] at H ⊢; exact H)
     obtain ⟨c45b0, H⟩ := ifd_ H
     obtain ⟨c46b0, H⟩ := ifd_ H
     obtain ⟨y173, hy173⟩ : ∃ y_ : List (S57), y_ = (t165.set ((ji44) : Int).toNat (⟨(rd_T57 t165 (ji44)).f0, (⟨Int.tmod t162 8, (rd_T57 t165 (ji44)).f1.f1⟩ : S55), (rd_T57 t165 (ji44)).f2, (rd_T57 t165 (ji44)).f3⟩ : S57)) := ⟨_, rfl⟩
     replace H : (some (y173, t168, t169)) = some (r1, r2, r3) := rh_ hy173 H
     have Ny173 := aa_ hy173
     clear hy173
     simp only [Option.some.injEq, Prod.mk.injEq] at H
     obtain ⟨rfl, rfl, rfl⟩ := H
     have hnb48 := NB170_158.out
     have hnc48 := NB158_170.out
     have hnb49 := NB170_0.out
     have hnc49 := NB0_170.out
     have hcz50 := blk_cell BK170.out
     have hfz50 := blk_frozen BK170.out
     have p47 : 0 ≤ ((ji44) : Int) := od_
     have q47 : ((ji44) : Int) < ((t165.length : Int) : Int) := od_
     obtain ⟨go47, co47, eo47, gb47, gl47, cl47, HG47⟩ := Kd.R_form HO167.out (by omega)
     (first | cases eo47 | (injection eo47 with ea_ en_ ec_; (first | subst ea_ | (injection ea_ with ea_; subst ea_)); subst ec_; clear en_))
     have GB47 := aa_ gb47
     have GG47 := aa_ HG47
     clear gb47 gl47 HG47
     obtain ⟨ce47, hcl47, hM47, hcc47, hfr47⟩ := Kd.R_elem HO167.out z57 ((ji44) : Int) p47 q47
     obtain rfl := k57_openM hM47
     have hx47_0 : w16.cell? ⟨go47, ((ji44) : Int).toNat * 5, none⟩ = some (.int .i64 ((rd_T57 t165 (ji44)).f0)) := hcc47 0 _ rfl
     have hx47_1 : w16.cell? ⟨go47, ((ji44) : Int).toNat * 5 + 1, none⟩ = some (.int .i64 ((rd_T57 t165 (ji44)).f1.f0)) := hcc47 1 _ rfl
     have hx47_2 : w16.cell? ⟨go47, ((ji44) : Int).toNat * 5 + 2, none⟩ = some (.int .i64 ((rd_T57 t165 (ji44)).f1.f1)) := hcc47 2 _ rfl
     have hx47_3 : w16.cell? ⟨go47, ((ji44) : Int).toNat * 5 + 3, none⟩ = some (.int .i64 ((rd_T57 t165 (ji44)).f2)) := hcc47 3 _ rfl
     have hx47_4 : w16.cell? ⟨go47, ((ji44) : Int).toNat * 5 + 4, none⟩ = some (.int .i64 ((rd_T57 t165 (ji44)).f3)) := hcc47 4 _ rfl
     have hf47_0 : w16.frozen? ⟨go47, ((ji44) : Int).toNat * 5, none⟩ = false := hfr47 0
     have hf47_1 : w16.frozen? ⟨go47, ((ji44) : Int).toNat * 5 + 1, none⟩ = false := hfr47 1
     have hf47_2 : w16.frozen? ⟨go47, ((ji44) : Int).toNat * 5 + 2, none⟩ = false := hfr47 2
     have hf47_3 : w16.frozen? ⟨go47, ((ji44) : Int).toNat * 5 + 3, none⟩ = false := hfr47 3
     have hf47_4 : w16.frozen? ⟨go47, ((ji44) : Int).toNat * 5 + 4, none⟩ = false := hfr47 4
     clear hcl47 hcc47 hfr47 hM47
     replace p47 := eq_true p47
     replace q47 := eq_true q47
     have HX51 := aa_ (show Kd.R k57 57 w16 w.heap.size (fun _ => True) (.slice (some ⟨go47, 0, none⟩) t165.length co12) t165 from (rr_ HO167))
     obtain ⟨ce51, hcl51, hM51, hcc51, hfr51⟩ := Kd.R_elem HX51.out z57 ((ji44) : Int) (od_) (by have h_ : ((ji44) : Int) < ((t165.length : Int) : Int) := od_; first | exact h_ | (have e_ := (Kd.R_reads' HO167.out).1; omega) | simpa using h_)
     obtain rfl := k57_openM hM51
     have HP51 := Kd.R_seg HX51.out ((ji44) : Int) (od_) (by have h_ : ((ji44) : Int) < ((t165.length : Int) : Int) := od_; first | exact h_ | (have e_ := (Kd.R_reads' HO167.out).1; omega) | simpa using h_) (seg := [.int .i64 (Int.tmod t162 8)]) (j := 1) hcl51 hcc51 (show 2 ≤ 5 from by decide) (x' := (⟨(rd_T57 t165 (ji44)).f0, (⟨Int.tmod t162 8, (rd_T57 t165 (ji44)).f1.f1⟩ : S55), (rd_T57 t165 (ji44)).f2, (rd_T57 t165 (ji44)).f3⟩ : S57)) (k57_mkM _ _ _ (⟨(rd_T57 t165 (ji44)).f0, (⟨Int.tmod t162 8, (rd_T57 t165 (ji44)).f1.f1⟩ : S55), (rd_T57 t165 (ji44)).f2, (rd_T57 t165 (ji44)).f3⟩ : S57) ) (fun _ hk => hk)
     have hx51_1 := hcc51 1 _ rfl
     (try simp only [show (k57).sz = 5 from rfl, Nat.mul_one, Nat.add_zero] at hx51_1)
     have hf51_1 := hfr51 1
     (try simp only [show (k57).sz = 5 from rfl, Nat.mul_one, Nat.add_zero] at hf51_1)
     clear hcl51 hcc51 hfr51 hM51
     go_wp2_with (first | ((with_reducible refine gate_store (t := 3) (p := 47) rfl ?_); refine store_event (t := 3) (p := 47) (v := ?vo_w52) (w1 := (w16.setCell ⟨go47, ((ji44) : Int).toNat * 5 + 1, none⟩ (.int .i64 (Int.tmod t162 8)))) ?hg ?ho ?hn ?hr ?_; (case ho => rfl); (case hg => rfl); (case hn => rfl); (case hr => first | (go_simp; done) | (go_simp; rfl)); intro w52 hw; have hg : w16.grownBy w52 (some go47) := (by rw [hw]; exact HP51.2); have hp_ : Kd.R k57 57 w52 w.heap.size (fun _ => True) (.slice (some ⟨go47, 0, none⟩) t165.length co12) y173 := (by rw [hw, Ny173.out]; exact HP51.1); clear HP51; replace HI0 := aa_ (IsS71.grown (show IsS71 w0 _ g s0_0 t168 t169 from by exact IsS71.nw_) hg (IsS71.own_ne HI0.out HO167.out (by decide))); replace BK158 := aa_ (blk_grown (g := gb158) (o := .cells #[.slice none 0 0] 27 (0, 0)) (bk_ BK158) hg (Kd.R_ne HO167.out BK158.out (by decide))); replace BK170 := aa_ (blk_grown (g := gb170) (o := .cells #[.slice (some ⟨go47, 0, none⟩) t165.length co12] 27 (0, 0)) (bk_ BK170) hg (Kd.R_ne HO167.out BK170.out (by decide))); replace HB := aa_ ((by rw [hw]; exact below_set (HB.out) (Nat.le_trans HL.out GB47.out) : Below w0.heap.size w0 w52)); replace HK := aa_ (KeepBut.trans (by exact kp_) (KeepBut.of_grown hg g) (Kd.R_base2 HO167.out)); replace HO167 := aa_ (hp_); clear hg hw hp_; obtain ⟨hcz53, hfz53⟩ := bcf_ BK170; have hnb54 := NB158_0.out; have hnc54 := NB0_158.out; obtain ⟨hcz55, hfz55⟩ := bcf_ BK158))
     refine bodyPost_ret (results_cell_row rfl _ _ gb158 27 #[.slice (some ⟨go47, 0, none⟩) t165.length co12] (0, 0) _ rfl (bk_ BK158) Try.underlying27 rfl (by kernel_rfl)) rfl ?_
     exact ⟨_, by first | rfl | (simp [errW_none, errW_some] <;> rfl) | (simp only [← hji44]; first | rfl | (simp [errW_none, errW_some] <;> rfl)) | (simp [*, errW_none, errW_some] <;> rfl), by (with_reducible repeat (first | apply Kd.R_alloc | apply Kd.R_drewN | apply Kd.R_drew)); exact Kd.R_mono (Kd.R_far (p := ⟨gb158, 0, none⟩) (Kd.R_types HO167.out BK158.out (by decide)) (fun _ hk => hk.2) (.slice (some ⟨go47, 0, none⟩) t165.length co12)) (fun _ hk => trivial), by exact IsS71.nw_, by exact IsS71.bw_, by exact kp_⟩
    ·rw [if_neg c43] at H
     have c43b0 : (t159 == 2) = false := beq_eq_false_iff_ne.mpr c43
     have c43b1 : (t159 != 2) = true := bne_iff_ne.mpr c43
     by_cases c56 : t159 = 3
     ·rw [if_pos c56] at H
      have c56b0 : (t159 == 3) = true := beq_iff_eq.mpr c56
      have c56b1 : (t159 != 3) = false := bne_eq_false_iff_eq.mpr c56
      clear c56
      obtain ⟨y174, hy174⟩ : ∃ y_ : List (S57), y_ = (([] : List (S57))) := ⟨_, rfl⟩
      replace H : (some (y174, t168, t169)) = some (r1, r2, r3) := rh_ hy174 H
      have Ny174 := aa_ hy174
      clear hy174
      simp only [Option.some.injEq, Prod.mk.injEq] at H
      obtain ⟨rfl, rfl, rfl⟩ := H
      go_wp2_with (first | ((with_reducible refine gD_ 50 rfl ?_); refine Kd.R_lit k57 _ 57 ?hg (N := 50) ?hd (xs := ([] : List (S57))) (inner := []) (ok := fun _ => True) (okp := fun _ => True) ?hr ?hp (fun _ hk => hk) trivial (Below.refl _ _) (Nat.le_refl _) (by simp) ?_; (case hd => rfl); (case hg => rfl); (case hr => first | (go_simp; done) | (go_simp; rfl)); (case hp => exact (Reps.none _ _)); intro v175 w57 ho58 hb hg_ hnew_; clear hg_ hnew_; (first | rw [← Ny174.out] at ho58 | (simp only [Int.reduceToNat] at ho58; rw [← Ny174.out] at ho58)); have HO176 := aa_ (Kd.R_lower (Kd.R_new' ho58 (Kd.R_lt (rr_ HO167))) (keep_size (w := w) (g := g) (row := none) (by exact kp_))); replace HO167 := aa_ (Kd.R_elder' (rr_ HO167) (Kd.R_base ho58) hb); replace BK158 := bkb_ BK158 hb; replace BK170 := bkb_ BK170 hb; replace HK := aa_ (KeepBut.trans (by exact kp_) (KeepBut.of_below hb g none) (.inl rfl)); replace HB := aa_ (below_step (by exact IsS71.bw_) hb); replace HI0 := aa_ (IsS71.below (by exact IsS71.nw_) hb); clear hb ho58; obtain ⟨Ao59, co59, eo59⟩ := Kd.R_slice HO176.out; subst eo59; have hnb60 := NB170_158.out; have hnc60 := NB158_170.out; have hnb61 := NB170_0.out; have hnc61 := NB0_170.out; obtain ⟨hcz62, hfz62⟩ := bcf_ BK170; have hnb63 := NB158_0.out; have hnc63 := NB0_158.out; obtain ⟨hcz64, hfz64⟩ := bcf_ BK158))
      refine bodyPost_ret (results_cell_row rfl _ _ gb158 27 #[.slice Ao59 y174.length co59] (0, 0) _ rfl (bk_ BK158) Try.underlying27 rfl (by kernel_rfl)) rfl ?_
      exact ⟨_, eq_, by (with_reducible repeat (first | apply Kd.R_alloc | apply Kd.R_drewN | apply Kd.R_drew)); exact Kd.R_mono (Kd.R_far (p := ⟨gb158, 0, none⟩) (Kd.R_far (p := ⟨gb170, 0, none⟩) (Kd.R_types (Kd.R_types HO176.out BK170.out (by decide)) BK158.out (by decide)) (fun _ hk => hk.1.2) (.slice Ao59 y174.length co59)) (fun _ hk => hk.2) (.slice Ao59 y174.length co59)) (fun _ hk => trivial), by exact IsS71.nw_, by exact IsS71.bw_, by exact kp_⟩
     ·rw [if_neg c56] at H
      have c56b0 : (t159 == 3) = false := beq_eq_false_iff_ne.mpr c56
      have c56b1 : (t159 != 3) = true := bne_iff_ne.mpr c56
      simp only [Option.some.injEq, Prod.mk.injEq] at H
      obtain ⟨rfl, rfl, rfl⟩ := H
      have hnb65 := NB170_158.out
      have hnc65 := NB158_170.out
      have hnb66 := NB170_0.out
      have hnc66 := NB0_170.out
      have hcz67 := blk_cell BK170.out
      have hfz67 := blk_frozen BK170.out
      have hnb68 := NB158_0.out
      have hnc68 := NB0_158.out
      have hcz69 := blk_cell BK158.out
      have hfz69 := blk_frozen BK158.out
      go_wp2
      refine bodyPost_ret (results_cell_row rfl _ _ gb158 27 #[.slice Ao12 t165.length co12] (0, 0) _ rfl (bk_ BK158) Try.underlying27 rfl (by kernel_rfl)) rfl ?_
      exact ⟨_, eq_, by (with_reducible repeat (first | apply Kd.R_alloc | apply Kd.R_drewN | apply Kd.R_drew)); exact Kd.R_mono (Kd.R_far (p := ⟨gb158, 0, none⟩) (Kd.R_types HO167.out BK158.out (by decide)) (fun _ hk => hk.2) (.slice Ao12 t165.length co12)) (fun _ hk => trivial), by exact IsS71.nw_, by exact IsS71.bw_, by exact kp_⟩
def spec_l01Once.f (s0_0 : List Int) (s0_1 : Int) (s0_2 : Int) (a1 : Int) : Option (Bool × Int × Int) := (spec_l01Below.f s0_0 s0_1 s0_2 a1).bind fun bt177 => (some ((bt177.1 == 0), bt177.2.1, bt177.2.2))
set_option maxHeartbeats 8000000 in
set_option maxRecDepth 100000 in
theorem spec_l01Once.calls (g : Nat) (s0_0 : List Int) (s0_1 : Int) (s0_2 : Int) (a1 : Int) (r1 : Bool) (r2 : Int) (r3 : Int) (w0 w : World) (hI : IsS71 w0 w g s0_0 s0_1 s0_2) (hB : Below w0.heap.size w0 w) (h : spec_l01Once.f s0_0 s0_1 s0_2 a1 = some (r1, r2, r3)) :
  Calls Try.prog 28 #[.pointer (some ⟨g, 0, none⟩), .int .i64 a1] w fun e w' => e = .returned (.bool r1) ∧ IsS71 w0 w' g s0_0 r2 r3 ∧ Below w0.heap.size w0 w' ∧ KeepBut w w' g none := by
 have HI0 := aa_ hI
 have HK := aa_ (KeepBut.refl w g none)
 have HL := aa_ hB.size
 clear hI
 have HW0 := aa_ hB.size
 have HB := aa_ hB
 clear hB
 have H : ((spec_l01Below.f s0_0 s0_1 s0_2 a1).bind fun bt177 => (some ((bt177.1 == 0), bt177.2.1, bt177.2.2))) = some (r1, r2, r3) := h
 clear h
 obtain ⟨⟨t177, t178, t179⟩, A3, H⟩ := bindE_ H
 (try dsimp only at H)
 simp only [Option.some.injEq, Prod.mk.injEq] at H
 obtain ⟨rfl, rfl, rfl⟩ := H
 go_enter Try.func28, Try.ntmps28
 go_wp2_with (first | ((with_reducible refine gC_ 25 rfl ?_); refine goesC_ (some 7) Try.func25 #[.pointer (some ⟨g, 0, none⟩), .int .i64 a1] ?_; (with_reducible refine (spec_l01Below.calls g s0_0 s0_1 s0_2 a1 t177 t178 t179 w0 _ ?side1 ?side2 A3.out).mono ?_); (case side1 => exact IsS71.nw_); (case side2 => exact IsS71.bw_); rintro e w4 ⟨rfl, hi, hb, hk⟩; refine ⟨_, rfl, ?_⟩; replace HK := aa_ (KeepBut.trans (by exact kp_) hk (.inl rfl)); replace HB := aa_ (hb); replace HI0 := aa_ (hi); (try clear hb hk hi)))
 go_ret
 exact ⟨eq_, by exact IsS71.nw_, by exact IsS71.bw_, by exact kp_⟩
def spec_l01PickInt.f (s0_0 : List Int) (s0_1 : Int) (s0_2 : Int) (l1 : List Int) : Option (Int × Int × Int) := (spec_l01Below.f s0_0 s0_1 s0_2 (l1.length : Int)).bind fun bt180 => (if 0 ≤ bt180.1 then (if bt180.1 < (l1.length : Int) then (some (rd l1 bt180.1, bt180.2.1, bt180.2.2)) else (none)) else (none))
set_option maxHeartbeats 8000000 in
set_option maxRecDepth 100000 in
theorem spec_l01PickInt.calls (g : Nat) (s0_0 : List Int) (s0_1 : Int) (s0_2 : Int) (A1 : Option Addr) (c1 : Nat) (l1 : List Int) (r1 : Int) (r2 : Int) (r3 : Int) (w0 w : World) (hI : IsS71 w0 w g s0_0 s0_1 s0_2) (hB : Below w0.heap.size w0 w) (hr1 : Kd.C (Kd.int .i64) w A1 l1.length l1) (hc1 : l1.length ≤ c1) (hf1 : ∀ ad, A1 = some ad → 0 < l1.length → ad.block ≠ g) (h : spec_l01PickInt.f s0_0 s0_1 s0_2 l1 = some (r1, r2, r3)) :
  Calls Try.prog 64 #[.pointer (some ⟨g, 0, none⟩), .slice A1 l1.length c1] w fun e w' => e = .returned (.int .i64 r1) ∧ IsS71 w0 w' g s0_0 r2 r3 ∧ Below w0.heap.size w0 w' ∧ KeepBut w w' g none := by
 have HR1 := aa_ hr1
 have HC1 := aa_ hc1
 clear hr1 hc1
 have HI0 := aa_ hI
 have HK := aa_ (KeepBut.refl w g none)
 have HL := aa_ hB.size
 clear hI
 have HW0 := aa_ hB.size
 have HB := aa_ hB
 clear hB
 have H : ((spec_l01Below.f s0_0 s0_1 s0_2 (l1.length : Int)).bind fun bt180 => (if 0 ≤ bt180.1 then (if bt180.1 < (l1.length : Int) then (some (rd l1 bt180.1, bt180.2.1, bt180.2.2)) else (none)) else (none))) = some (r1, r2, r3) := h
 clear h
 obtain ⟨⟨t180, t181, t182⟩, A3, H⟩ := bindE_ H
 (try dsimp only at H)
 obtain ⟨c4b0, H⟩ := ifd_ H
 obtain ⟨c5b0, H⟩ := ifd_ H
 simp only [Option.some.injEq, Prod.mk.injEq] at H
 obtain ⟨rfl, rfl, rfl⟩ := H
 go_enter Try.func64, Try.ntmps64
 go_wp2_with (first | ((with_reducible refine gC_ 25 rfl ?_); refine goesC_ (some 9) Try.func25 #[.pointer (some ⟨g, 0, none⟩), .int .i64 (l1.length : Int)] ?_; (with_reducible refine (spec_l01Below.calls g s0_0 s0_1 s0_2 (l1.length : Int) t180 t181 t182 w0 _ ?side1 ?side2 A3.out).mono ?_); (case side1 => exact IsS71.nw_); (case side2 => exact IsS71.bw_); rintro e w6 ⟨rfl, hi, hb, hk⟩; refine ⟨_, rfl, ?_⟩; replace HK := aa_ (KeepBut.trans (by exact kp_) hk (.inl rfl)); replace HB := aa_ (hb); replace HI0 := aa_ (hi); (try clear hb hk hi); have p183 : 0 ≤ (t180 : Int) := od_; have q183 : t180 < (l1.length : Int) := od_; obtain ⟨ad183, e183, hx183_0⟩ := Kd.at_int HR1.out t180 p183 q183; cases e183; replace hx183_0 := keep_cell HK.out hx183_0 (by first | (rw [add_block]; exact hf1 _ rfl (by omega)) | exact hf1 _ rfl (by omega) | exact hf1 ad183 rfl (by omega)); replace p183 := eq_true p183; replace q183 := eq_true q183))
 go_ret
 exact ⟨eq_, by exact IsS71.nw_, by exact IsS71.bw_, by exact kp_⟩
end Go.Proofs.Ytnoklfpnmopkpaa.PE
