import Derived.Test.YtnoklfpnmopkpaaKPPEx4
-- printed by wip/tools
namespace Go.Proofs.Ytnoklfpnmopkpaa.PE
open Go.RowKit Go.Proofs.YtnoklfpnmopkpaaW.PrintWords Go.Proofs.YtnoklfpnmopkpaaW.PrintLast Go.Proofs.YtnoklfpnmopkpaaW.PrintMore
attribute [local go_sem] max2_int min2_int max_two min_two max_three min_three max_four min_four
set_option linter.unusedVariables false
set_option linter.unusedSimpArgs false
mutual
def spec_l21Policy.l0 : Nat → Int → Int → List Int → Int → Int → List (S57) → Option ((List (S57)) × Int × Int)
 | 0, _, _, _, _, _, _ => none
 | k + 1, x1, x6, x1000, x1001, x1002, x129000 => (spec_l01Below.f x1000 x1001 x1002 8).bind fun bt129 => (if x6 < (wrap64 (1 + bt129.1)) then ((spec_l01Below.f x1000 bt129.2.1 bt129.2.2 x1).bind fun bt132 => (if x6 = 0 then (spec_l21Policy.j1 k x1 x6 1 x1000 bt132.2.1 bt132.2.2 x129000) else (spec_l21Policy.j1 k x1 x6 (wrap64 (1 + bt132.1)) x1000 bt132.2.1 bt132.2.2 x129000))) else (some (x129000, bt129.2.1, bt129.2.2)))
def spec_l21Policy.j1 : Nat → Int → Int → Int → List Int → Int → Int → List (S57) → Option ((List (S57)) × Int × Int)
 | 0, _, _, _, _, _, _, _ => none
 | k + 1, x1, x6, x7, x1000, x1001, x1002, x129000 => if x7 = 1 then ((spec_l05Role.f x1000 x1001 x1002).bind fun bt136 => (if x129000.length < 3518437208883 then (spec_l21Policy.l0 k x1 (wrap64 (x6 + 1)) x1000 bt136.2.2.1 bt136.2.2.2 (x129000 ++ [(⟨x7, (⟨bt136.1, bt136.2.1⟩ : S55), 0, 0⟩ : S57)])) else (none))) else (if x7 = 4 then ((spec_l01Below.f x1000 x1001 x1002 x6).bind fun bt143 => (if x129000.length < 3518437208883 then (spec_l21Policy.l0 k x1 (wrap64 (x6 + 1)) x1000 bt143.2.1 bt143.2.2 (x129000 ++ [(⟨x7, (⟨0, 0⟩ : S55), bt143.1, 0⟩ : S57)])) else (none))) else ((spec_l01Below.f x1000 x1001 x1002 x6).bind fun bt149 => ((spec_l01Below.f x1000 bt149.2.1 bt149.2.2 x6).bind fun bt152 => (if x129000.length < 3518437208883 then (spec_l21Policy.l0 k x1 (wrap64 (x6 + 1)) x1000 bt152.2.1 bt152.2.2 (x129000 ++ [(⟨x7, (⟨0, 0⟩ : S55), bt149.1, bt152.1⟩ : S57)])) else (none)))))
end
def spec_l21Policy.f (k : Nat) (s0_0 : List Int) (s0_1 : Int) (s0_2 : Int) (a1 : Int) : Option ((List (S57)) × Int × Int) := spec_l21Policy.l0 k a1 0 s0_0 s0_1 s0_2 ([] : List (S57))
set_option maxHeartbeats 8000000 in
set_option maxRecDepth 100000 in
theorem spec_l21Policy.calls (k : Nat) (g : Nat) (s0_0 : List Int) (s0_1 : Int) (s0_2 : Int) (a1 : Int) (r1 : List (S57)) (r2 : Int) (r3 : Int) (w0 w : World) (hI : IsS71 w0 w g s0_0 s0_1 s0_2) (hB : Below w0.heap.size w0 w) (h : spec_l21Policy.f k s0_0 s0_1 s0_2 a1 = some (r1, r2, r3)) :
  Calls Try.prog 29 #[.pointer (some ⟨g, 0, none⟩), .int .i64 a1] w fun e w' => ∃ v0_ : Value, e = .returned (.agg #[v0_]) ∧ Kd.R k57 57 w' w.heap.size (fun _ => True) v0_ r1 ∧ IsS71 w0 w' g s0_0 r2 r3 ∧ Below w0.heap.size w0 w' ∧ KeepBut w w' g none := by
 have hu27 := Try.underlying27
 have hu57 := Try.underlying57
 have hu55 := Try.underlying55
 have HI0 := aa_ hI
 have HK := aa_ (KeepBut.refl w g none)
 have HL := aa_ hB.size
 clear hI
 have HW0 := aa_ hB.size
 have HB := aa_ hB
 clear hB
 have H : (spec_l21Policy.l0 k a1 0 s0_0 s0_1 s0_2 ([] : List (S57))) = some (r1, r2, r3) := h
 clear h
 have H' := aa_ H
 clear H
 go_enter Try.func29, Try.ntmps29
 go_wp2_with (first | ((with_reducible refine gD_ 4 rfl ?_); refine bx_ (N := 4) (cs := #[.slice none 0 0]) (t := 27) ?_; intro gb127 hg w3 hbox hb; replace HB := aa_ (below_step (by exact IsS71.bw_) hb); have BK127 := aa_ (hbox); have GW127 := aa_ ((by rw [hg]; exact (keep_size (w := w) (g := g) (row := none) (by exact kp_)) : w.heap.size ≤ gb127)); have GE127 := aa_ ((Nat.le_trans HW0.out (by rw [hg]; exact (keep_size (w := w) (g := g) (row := none) (by exact kp_)) : w.heap.size ≤ gb127) : w0.heap.size ≤ gb127)); replace HK := aa_ (KeepBut.trans (by exact kp_) (KeepBut.of_below hb g none) (.inl rfl)); have NB0_127 := aa_ ((by rw [hg]; exact Nat.ne_of_lt (IsS71.lt (show IsS71 w0 _ g s0_0 s0_1 s0_2 from by exact IsS71.nw_)) : g ≠ gb127)); have NB127_0 := aa_ ((by rw [hg]; exact Nat.ne_of_gt (IsS71.lt (show IsS71 w0 _ g s0_0 s0_1 s0_2 from by exact IsS71.nw_)) : gb127 ≠ g)); replace HI0 := aa_ (IsS71.below (by exact IsS71.nw_) hb); clear hb hbox hg) | ((with_reducible refine gD_ 5 rfl ?_); refine bx_ (N := 5) (cs := #[.slice none 0 0]) (t := 27) ?_; intro gb128 hg w4 hbox hb; replace HB := aa_ (below_step (by exact IsS71.bw_) hb); have BK128 := aa_ (hbox); have GW128 := aa_ ((by rw [hg]; exact (keep_size (w := w) (g := g) (row := none) (by exact kp_)) : w.heap.size ≤ gb128)); have GE128 := aa_ ((Nat.le_trans HW0.out (by rw [hg]; exact (keep_size (w := w) (g := g) (row := none) (by exact kp_)) : w.heap.size ≤ gb128) : w0.heap.size ≤ gb128)); replace HK := aa_ (KeepBut.trans (by exact kp_) (KeepBut.of_below hb g none) (.inl rfl)); have NB127_128 := nl_ hg BK127; have NB128_127 := nr_ hg BK127; replace BK127 := bkb_ BK127 hb; have NB0_128 := aa_ ((by rw [hg]; exact Nat.ne_of_lt (IsS71.lt (show IsS71 w0 _ g s0_0 s0_1 s0_2 from by exact IsS71.nw_)) : g ≠ gb128)); have NB128_0 := aa_ ((by rw [hg]; exact Nat.ne_of_gt (IsS71.lt (show IsS71 w0 _ g s0_0 s0_1 s0_2 from by exact IsS71.nw_)) : gb128 ≠ g)); replace HI0 := aa_ (IsS71.below (by exact IsS71.nw_) hb); clear hb hbox hg; have hnb5 := NB128_127.out; have hnc5 := NB127_128.out; have hnb6 := NB128_0.out; have hnc6 := NB0_128.out; obtain ⟨hcz7, hfz7⟩ := bcf_ BK128))
 go_loopg [6] k (fun kq v6 w' => ∃ (x6_1 : Int) (x1001_1 : Int) (x1002_1 : Int) (x129000_1 : List (S57)) (u129000 : Value), v6 = .int .i64 x6_1 ∧ Aside0 (spec_l21Policy.l0 kq a1 x6_1 s0_0 x1001_1 x1002_1 x129000_1 = some (r1, r2, r3)) ∧ Aside0 (kq ≤ k) ∧ Aside0 (Kd.R k57 57 w' w.heap.size (fun _ => True) u129000 x129000_1) ∧ Aside0 (w'.heap[gb127]? = some (.cells #[(.slice none 0 0)] 27 (0, 0))) ∧ Aside0 (w'.heap[gb128]? = some (.cells #[u129000] 27 (0, 0))) ∧ Aside0 (IsS71 w0 w' g s0_0 x1001_1 x1002_1) ∧ Aside0 (KeepBut w w' g none) ∧ Aside0 (Below w0.heap.size w0 w'))
 case atStart => exact ⟨(0), (s0_1), (s0_2), (([] : List (S57))), (.slice none 0 0), rf_, H', ⟨Nat.le_refl _⟩, ⟨by first | exact Kd.R_nil _ _ _ _ _ | exact Kd.N_nil _ _ _ _ _ | exact Kd.V_nil _ _ _ _ _ | exact Kd.Q_nil _ _ _ _ _ | exact Kd.S_nil _ _ _ _ _⟩, ⟨bk_ BK127⟩, ⟨bk_ BK128⟩, ⟨by exact IsS71.nw_⟩, ⟨by exact kp_⟩, ⟨by exact IsS71.bw_⟩⟩
 case round =>
  clear H'
  try clear c2
  try clear p2
  try clear c5
  try clear c6
  try clear hcz7
  try clear hfz7
  obtain ⟨x6_1, x1001_1, x1002_1, x129000_1, u129000, rfl, HA, HK1, HO_129000, BK127, BK128, HI0, HK, HB⟩ := hrel
  cases gk with
  | zero => exact absurd HA.out (by simp [spec_l21Policy.l0])
  | succ k1 =>
   have H := HA.out
   clear HA
   simp only [spec_l21Policy.l0] at H
   obtain ⟨⟨t129, t130, t131⟩, A8, H⟩ := bindE_ H
   (try dsimp only at H)
   have HC9 := aa_ H
   clear H
   go_upto_if 14 with (first | ((with_reducible refine gC_ 25 rfl ?_); refine goesC_ (some 12) Try.func25 #[.pointer (some ⟨g, 0, none⟩), .int .i64 8] ?_; (with_reducible refine (spec_l01Below.calls g s0_0 x1001_1 x1002_1 8 t129 t130 t131 w0 _ ?side1 ?side2 A8.out).mono ?_); (case side1 => exact IsS71.nw_); (case side2 => exact IsS71.bw_); rintro e w10 ⟨rfl, hi, hb, hk⟩; refine ⟨_, rfl, ?_⟩; replace HO_129000 := aa_ (Kd.R_mono (Kd.R_keep (IsS71.apart (show IsS71 w0 _ g s0_0 x1001_1 x1002_1 from by exact IsS71.nw_) (rr_ HO_129000) (by decide)) hk (fun _ h => h.2)) (fun _ h => h.1)); replace BK127 := aa_ (KeepBut.blk hk (g' := gb127) (o := .cells #[.slice none 0 0] 27 (0, 0)) (bk_ BK127) NB127_0.out (by simp)); replace BK128 := aa_ (KeepBut.blk hk (g' := gb128) (o := .cells #[u129000] 27 (0, 0)) (bk_ BK128) NB128_0.out (by simp)); replace HK := aa_ (KeepBut.trans (by exact kp_) hk (.inl rfl)); replace HB := aa_ (hb); replace HI0 := aa_ (hi); (try clear hb hk hi)))
   (try simp only [Act.put, List.setIfInBounds_toArray, List.set_cons_zero, List.set_cons_succ])
   have H := HC9.out
   clear HC9
   by_cases c11 : x6_1 < (wrap64 (1 + t129))
   ·rw [if_pos c11] at H
    have c11b0 : decide (x6_1 < (wrap64 (1 + t129))) = true := decide_eq_true c11
    clear c11
    (first | rw [c11b0] | (simp only [i64_w, i32_w]; rw [c11b0]) | skip)
    obtain ⟨⟨t132, t133, t134⟩, A12, H⟩ := bindE_ H
    (try dsimp only at H)
    have HC13 := aa_ H
    clear H
    go_upto_if 22 with (first | ((with_reducible refine gC_ 25 rfl ?_); refine goesC_ (some 19) Try.func25 #[.pointer (some ⟨g, 0, none⟩), .int .i64 a1] ?_; (with_reducible refine (spec_l01Below.calls g s0_0 t130 t131 a1 t132 t133 t134 w0 _ ?side1 ?side2 A12.out).mono ?_); (case side1 => exact IsS71.nw_); (case side2 => exact IsS71.bw_); rintro e w14 ⟨rfl, hi, hb, hk⟩; refine ⟨_, rfl, ?_⟩; replace HO_129000 := aa_ (Kd.R_mono (Kd.R_keep (IsS71.apart (show IsS71 w0 _ g s0_0 t130 t131 from by exact IsS71.nw_) (rr_ HO_129000) (by decide)) hk (fun _ h => h.2)) (fun _ h => h.1)); replace BK127 := aa_ (KeepBut.blk hk (g' := gb127) (o := .cells #[.slice none 0 0] 27 (0, 0)) (bk_ BK127) NB127_0.out (by simp)); replace BK128 := aa_ (KeepBut.blk hk (g' := gb128) (o := .cells #[u129000] 27 (0, 0)) (bk_ BK128) NB128_0.out (by simp)); replace HK := aa_ (KeepBut.trans (by exact kp_) hk (.inl rfl)); replace HB := aa_ (hb); replace HI0 := aa_ (hi); (try clear hb hk hi)))
    (try simp only [Act.put, List.setIfInBounds_toArray, List.set_cons_zero, List.set_cons_succ])
    go_cut [7] (fun v7 wc => ∃ (kq : Nat) (x7_12 : Int), v7 = .int .i64 x7_12 ∧ Aside0 (spec_l21Policy.j1 kq a1 x6_1 x7_12 s0_0 t133 t134 x129000_1 = some (r1, r2, r3)) ∧ Aside0 (kq ≤ k1) ∧ Aside0 (Kd.R k57 57 wc w.heap.size (fun _ => True) u129000 x129000_1) ∧ Aside0 (wc.heap[gb127]? = some (.cells #[(.slice none 0 0)] 27 (0, 0))) ∧ Aside0 (wc.heap[gb128]? = some (.cells #[u129000] 27 (0, 0))) ∧ Aside0 (IsS71 w0 wc g s0_0 t133 t134) ∧ Aside0 (KeepBut w wc g none) ∧ Aside0 (Below w0.heap.size w0 wc))
    case first =>
     have H := HC13.out
     clear HC13
     by_cases c15 : x6_1 = 0
     ·rw [if_pos c15] at H
      have c15b0 : (x6_1 == 0) = true := beq_iff_eq.mpr c15
      have c15b1 : (x6_1 != 0) = false := bne_eq_false_iff_eq.mpr c15
      clear c15
      (first | rw [c15b0] | (simp only [i64_w, i32_w]; rw [c15b0]) | skip)
      have H' := aa_ H
      clear H
      go_wp2
      go_meet
      case rel => exact ⟨_, (1), rf_, H', ⟨by have := HK1.out; first | omega | exact Nat.le_refl _⟩, ⟨rr_ HO_129000⟩, ⟨bk_ BK127⟩, ⟨bk_ BK128⟩, ⟨by exact IsS71.nw_⟩, ⟨by exact kp_⟩, ⟨by exact IsS71.bw_⟩⟩
     ·rw [if_neg c15] at H
      have c15b0 : (x6_1 == 0) = false := beq_eq_false_iff_ne.mpr c15
      have c15b1 : (x6_1 != 0) = true := bne_iff_ne.mpr c15
      (first | rw [c15b0] | (simp only [i64_w, i32_w]; rw [c15b0]) | skip)
      have H' := aa_ H
      clear H
      go_wp2
      go_meet
      case rel => exact ⟨_, (wrap64 (1 + t132)), rf_, H', ⟨by have := HK1.out; first | omega | exact Nat.le_refl _⟩, ⟨rr_ HO_129000⟩, ⟨bk_ BK127⟩, ⟨bk_ BK128⟩, ⟨by exact IsS71.nw_⟩, ⟨by exact kp_⟩, ⟨by exact IsS71.bw_⟩⟩
    case rest =>
     clear HC13
     try clear c1
     try clear c2
     try clear p2
     try clear c5
     try clear c6
     try clear p6
     try clear c11
     try clear c11b0
     try clear c15
     try clear c15b0
     try clear c15b1
     try clear hcz7
     try clear hfz7
     try clear p2
     obtain ⟨kq, x7_12, rfl, HA, HJ12, HO_129000, BK127, BK128, HI0, HK, HB⟩ := hcut
     cases kq with
     | zero => exact absurd HA.out (by simp [spec_l21Policy.j1])
     | succ kj12 =>
      have H := HA.out
      clear HA
      simp only [spec_l21Policy.j1] at H
      have HC16 := aa_ H
      clear H
      go_upto_if 34 with (first | ((with_reducible refine gD_ 8 rfl ?_); refine bx_ (N := 8) (cs := #[.int .i64 0, .int .i64 0, .int .i64 0, .int .i64 0, .int .i64 0]) (t := 57) ?_; intro gb135 hg w17 hbox hb; replace HO_129000 := aa_ (Kd.R_below (Kd.R_elderB (rr_ HO_129000) gb135 (Nat.le_of_eq hg.symm)) hb); replace HB := aa_ (below_step (by exact IsS71.bw_) hb); have BK135 := aa_ (hbox); have GW135 := aa_ ((by rw [hg]; exact (keep_size (w := w) (g := g) (row := none) (by exact kp_)) : w.heap.size ≤ gb135)); have GE135 := aa_ ((Nat.le_trans HW0.out (by rw [hg]; exact (keep_size (w := w) (g := g) (row := none) (by exact kp_)) : w.heap.size ≤ gb135) : w0.heap.size ≤ gb135)); replace HK := aa_ (KeepBut.trans (by exact kp_) (KeepBut.of_below hb g none) (.inl rfl)); have NB127_135 := nl_ hg BK127; have NB135_127 := nr_ hg BK127; replace BK127 := bkb_ BK127 hb; have NB128_135 := nl_ hg BK128; have NB135_128 := nr_ hg BK128; replace BK128 := bkb_ BK128 hb; have NB0_135 := aa_ ((by rw [hg]; exact Nat.ne_of_lt (IsS71.lt (show IsS71 w0 _ g s0_0 t133 t134 from by exact IsS71.nw_)) : g ≠ gb135)); have NB135_0 := aa_ ((by rw [hg]; exact Nat.ne_of_gt (IsS71.lt (show IsS71 w0 _ g s0_0 t133 t134 from by exact IsS71.nw_)) : gb135 ≠ g)); replace HI0 := aa_ (IsS71.below (by exact IsS71.nw_) hb); clear hb hbox hg; have hnb18 := NB135_127.out; have hnc18 := NB127_135.out; have hnb19 := NB135_128.out; have hnc19 := NB128_135.out; have hnb20 := NB135_0.out; have hnc20 := NB0_135.out; obtain ⟨hcz21, hfz21⟩ := bcf_ BK135))
      have n0_ : Aside0 (Kd.R k57 57 (((((w17.setCell ⟨gb135, 0, none⟩ (.int .i64 x7_12)).setCell ⟨gb135, 1, none⟩ (.int .i64 0)).setCell ⟨gb135, 2, none⟩ (.int .i64 0)).setCell ⟨gb135, 3, none⟩ (.int .i64 0)).setCell ⟨gb135, 4, none⟩ (.int .i64 0)) w.heap.size (fun k_ => k_ ≠ gb135) u129000 x129000_1) := ⟨by (with_reducible repeat (first | apply Kd.R_alloc | apply Kd.R_drewN | apply Kd.R_drew)); exact Kd.R_mono (fr5_ (Kd.R_mono HO_129000.out (fun k_ hk => (⟨hk, hk.2⟩ : _ ∧ k_ ≠ gb135))) (fun _ hk => hk.2)) (fun _ hk => hk.1.2)⟩
      have n1_ : Aside0 ((((((w17.setCell ⟨gb135, 0, none⟩ (.int .i64 x7_12)).setCell ⟨gb135, 1, none⟩ (.int .i64 0)).setCell ⟨gb135, 2, none⟩ (.int .i64 0)).setCell ⟨gb135, 3, none⟩ (.int .i64 0)).setCell ⟨gb135, 4, none⟩ (.int .i64 0)).heap[gb127]? = some (.cells #[.slice none 0 0] 27 (0, 0))) := ⟨bk_ BK127⟩
      have n2_ : Aside0 ((((((w17.setCell ⟨gb135, 0, none⟩ (.int .i64 x7_12)).setCell ⟨gb135, 1, none⟩ (.int .i64 0)).setCell ⟨gb135, 2, none⟩ (.int .i64 0)).setCell ⟨gb135, 3, none⟩ (.int .i64 0)).setCell ⟨gb135, 4, none⟩ (.int .i64 0)).heap[gb128]? = some (.cells #[u129000] 27 (0, 0))) := ⟨bk_ BK128⟩
      have n3_ : Aside0 ((((((w17.setCell ⟨gb135, 0, none⟩ (.int .i64 x7_12)).setCell ⟨gb135, 1, none⟩ (.int .i64 0)).setCell ⟨gb135, 2, none⟩ (.int .i64 0)).setCell ⟨gb135, 3, none⟩ (.int .i64 0)).setCell ⟨gb135, 4, none⟩ (.int .i64 0)).heap[gb135]? = some (.cells #[.int .i64 x7_12, .int .i64 0, .int .i64 0, .int .i64 0, .int .i64 0] 57 (0, 0))) := ⟨bk_ BK135⟩
      have n4_ : Aside0 (IsS71 w0 (((((w17.setCell ⟨gb135, 0, none⟩ (.int .i64 x7_12)).setCell ⟨gb135, 1, none⟩ (.int .i64 0)).setCell ⟨gb135, 2, none⟩ (.int .i64 0)).setCell ⟨gb135, 3, none⟩ (.int .i64 0)).setCell ⟨gb135, 4, none⟩ (.int .i64 0)) g s0_0 t133 t134) := ⟨by exact IsS71.nw_⟩
      have n5_ : Aside0 (KeepBut w (((((w17.setCell ⟨gb135, 0, none⟩ (.int .i64 x7_12)).setCell ⟨gb135, 1, none⟩ (.int .i64 0)).setCell ⟨gb135, 2, none⟩ (.int .i64 0)).setCell ⟨gb135, 3, none⟩ (.int .i64 0)).setCell ⟨gb135, 4, none⟩ (.int .i64 0)) g none) := ⟨by exact kp_⟩
      have n6_ : Aside0 (Below w0.heap.size w0 (((((w17.setCell ⟨gb135, 0, none⟩ (.int .i64 x7_12)).setCell ⟨gb135, 1, none⟩ (.int .i64 0)).setCell ⟨gb135, 2, none⟩ (.int .i64 0)).setCell ⟨gb135, 3, none⟩ (.int .i64 0)).setCell ⟨gb135, 4, none⟩ (.int .i64 0))) := ⟨by exact IsS71.bw_⟩
      (try clear HO_129000)
      (try clear BK127)
      (try clear BK128)
      (try clear BK135)
      (try clear HI0)
      (try clear HK)
      (try clear HB)
      generalize (((((w17.setCell ⟨gb135, 0, none⟩ (.int .i64 x7_12)).setCell ⟨gb135, 1, none⟩ (.int .i64 0)).setCell ⟨gb135, 2, none⟩ (.int .i64 0)).setCell ⟨gb135, 3, none⟩ (.int .i64 0)).setCell ⟨gb135, 4, none⟩ (.int .i64 0)) = w22 at n0_ n1_ n2_ n3_ n4_ n5_ n6_ ⊢
      have HO_129000 := n0_
      have BK127 := n1_
      have BK128 := n2_
      have BK135 := n3_
      have HI0 := n4_
      have HK := n5_
      have HB := n6_
      clear n0_ n1_ n2_ n3_ n4_ n5_ n6_
      (try simp only [Act.put, List.setIfInBounds_toArray, List.set_cons_zero, List.set_cons_succ])
      have H := HC16.out
      clear HC16
      by_cases c23 : x7_12 = 1
      ·rw [if_pos c23] at H
       have c23b0 : (x7_12 == 1) = true := beq_iff_eq.mpr c23
       have c23b1 : (x7_12 != 1) = false := bne_eq_false_iff_eq.mpr c23
       clear c23
       (first | rw [c23b0] | (simp only [i64_w, i32_w]; rw [c23b0]) | skip)
       obtain ⟨⟨t136, t137, t138, t139⟩, A24, H⟩ := bindE_ H
       replace H : (if x129000_1.length < 3518437208883 then (spec_l21Policy.l0 kj12 a1 (wrap64 (x6_1 + 1)) s0_0 t138 t139 (x129000_1 ++ [(⟨x7_12, (⟨t136, t137⟩ : S55), 0, 0⟩ : S57)])) else (none)) = some (r1, r2, r3) := H
       obtain ⟨c25, H⟩ := ifn_ H
       have LMc25 := aa_ c25
       clear c25
       obtain ⟨y140, hy140⟩ : ∃ y_ : List (S57), y_ = (x129000_1 ++ [(⟨x7_12, (⟨t136, t137⟩ : S55), 0, 0⟩ : S57)]) := ⟨_, rfl⟩
       replace H : (spec_l21Policy.l0 kj12 a1 (wrap64 (x6_1 + 1)) s0_0 t138 t139 y140) = some (r1, r2, r3) := rh_ hy140 H
       have Ny140 := aa_ hy140
       clear hy140
       have H' := aa_ H
       clear H
       go_wp2_with (first | ((with_reducible refine gC_ 51 rfl ?_); refine goesC_ (some 37) Try.func51 #[.pointer (some ⟨g, 0, none⟩)] ?_; (with_reducible refine (spec_l05Role.calls g s0_0 t133 t134 t136 t137 t138 t139 w0 _ ?side1 ?side2 A24.out).mono ?_); (case side1 => exact IsS71.nw_); (case side2 => exact IsS71.bw_); rintro e w26 ⟨rfl, hi, hb, hk⟩; refine ⟨_, rfl, ?_⟩; replace HO_129000 := aa_ (Kd.R_mono (Kd.R_keep (IsS71.apart (show IsS71 w0 _ g s0_0 t133 t134 from by exact IsS71.nw_) (rr_ HO_129000) (by decide)) hk (fun _ h => h.2)) (fun _ h => h.1)); replace BK127 := aa_ (KeepBut.blk hk (g' := gb127) (o := .cells #[.slice none 0 0] 27 (0, 0)) (bk_ BK127) NB127_0.out (by simp)); replace BK128 := aa_ (KeepBut.blk hk (g' := gb128) (o := .cells #[u129000] 27 (0, 0)) (bk_ BK128) NB128_0.out (by simp)); replace BK135 := aa_ (KeepBut.blk hk (g' := gb135) (o := .cells #[.int .i64 x7_12, .int .i64 0, .int .i64 0, .int .i64 0, .int .i64 0] 57 (0, 0)) (bk_ BK135) NB135_0.out (by simp)); replace HK := aa_ (KeepBut.trans (by exact kp_) hk (.inl rfl)); replace HB := aa_ (hb); replace HI0 := aa_ (hi); (try clear hb hk hi); have hnb27 := NB135_127.out; have hnc27 := NB127_135.out; have hnb28 := NB135_128.out; have hnc28 := NB128_135.out; have hnb29 := NB135_0.out; have hnc29 := NB0_135.out; obtain ⟨hcz30, hfz30⟩ := bcf_ BK135; have hnb31 := NB128_127.out; have hnc31 := NB127_128.out; have hnb32 := NB128_0.out; have hnc32 := NB0_128.out; obtain ⟨hcz33, hfz33⟩ := bcf_ BK128) | ((with_reducible refine gate_builtin (b := .append) (xs := #[.tmp 46, .tmp 48]) rfl ?_); at_builtin; refine Kd.R_append k57 w.heap.size rfl (.tmp 46) (.tmp 48) 25 57 (.agg #[(.int .i64 0), (.int .i64 0), (.int .i64 0), (.int .i64 0), (.int .i64 0)]) 40 rfl Try.underlying25 info57 rfl (by decide) (by omega) u129000 x129000_1 (⟨x7_12, (⟨t136, t137⟩ : S55), 0, 0⟩ : S57) [.int .i64 x7_12, .int .i64 t136, .int .i64 t137, .int .i64 0, .int .i64 0] (fun k_ => k_ ≠ gb135) (fun _ => False) rfl (by first | (go_simp; done) | (go_simp; rfl)) ?aP (fun _ hk => hk.elim) ?aF ?aO (Below.refl _ _) ?aS ?aL ?_; (case aP => exact k57_mkM _ _ _ (⟨x7_12, (⟨t136, t137⟩ : S55), 0, 0⟩ : S57)); (case aF => exact (fun k_ hk => Kd.freshB (g := gb135) (o := .cells #[.int .i64 x7_12, .int .i64 t136, .int .i64 t137, .int .i64 0, .int .i64 0] 57 (0, 0)) (bk_ BK135) k_ hk)); (case aO => exact (by (with_reducible repeat (first | apply Kd.R_alloc | apply Kd.R_drewN | apply Kd.R_drew)); exact Kd.R_mono (Kd.R_far (p := ⟨gb135, 2, none⟩) (Kd.R_far (p := ⟨gb135, 1, none⟩) (Kd.R_mono HO_129000.out (fun k_ hk => (⟨hk, hk⟩ : _ ∧ k_ ≠ gb135))) (fun _ hk => hk.2) (.int .i64 t136)) (fun _ hk => hk.2) (.int .i64 t137)) (fun _ hk => hk.1))); (case aS => exact (keep_size (w := w) (g := g) (row := none) (by exact kp_))); (case aL => have := LMc25.out; omega); intro v141 w34 ho hb hg hat; rw [← Ny140.out] at ho; replace BK127 := aa_ (blk_grown (g := gb127) (o := .cells #[.slice none 0 0] 27 (0, 0)) (bk_ BK127) hg (Kd.R_ne HO_129000.out BK127.out (by decide))); replace BK128 := aa_ (blk_grown (g := gb128) (o := .cells #[u129000] 27 (0, 0)) (bk_ BK128) hg (Kd.R_ne HO_129000.out BK128.out (by decide))); replace BK135 := aa_ (blk_grown (g := gb135) (o := .cells #[.int .i64 x7_12, .int .i64 t136, .int .i64 t137, .int .i64 0, .int .i64 0] 57 (0, 0)) (bk_ BK135) hg (Kd.R_away HO_129000.out (fun _ hk => hk))); replace HB := aa_ (below_weaken (by exact IsS71.bw_) HL.out hb); replace HI0 := aa_ (IsS71.grown (show IsS71 w0 _ g s0_0 t138 t139 from by exact IsS71.nw_) hg (IsS71.own_ne HI0.out HO_129000.out (by decide))); replace HK := aa_ (KeepBut.trans (by exact kp_) (KeepBut.of_grown hg g) (Kd.R_base2 HO_129000.out)); have HO142 := aa_ (ho); clear HO_129000; clear ho hb hg hat; obtain ⟨Ao35, co35, eo35⟩ := Kd.R_slice HO142.out; subst eo35; obtain ⟨hcz36, hfz36⟩ := bcf_ BK128))
       go_roundg kj12
       case measure => have := HK1.out; have := HJ12.out; omega
       case rel => exact ⟨(wrap64 (x6_1 + 1)), (t138), (t139), (y140), (.slice Ao35 y140.length co35), rf_, H', ⟨by have := HK1.out; have := HJ12.out; omega⟩, ⟨by (with_reducible repeat (first | apply Kd.R_alloc | apply Kd.R_drewN | apply Kd.R_drew)); exact Kd.R_mono (Kd.R_far (p := ⟨gb128, 0, none⟩) (Kd.R_types HO142.out BK128.out (by decide)) (fun _ hk => hk.2) (.slice Ao35 y140.length co35)) (fun _ hk => trivial)⟩, ⟨bk_ BK127⟩, ⟨bk_ BK128⟩, ⟨by exact IsS71.nw_⟩, ⟨by exact kp_⟩, ⟨by exact IsS71.bw_⟩⟩
      ·rw [if_neg c23] at H
       have c23b0 : (x7_12 == 1) = false := beq_eq_false_iff_ne.mpr c23
       have c23b1 : (x7_12 != 1) = true := bne_iff_ne.mpr c23
       (first | rw [c23b0] | (simp only [i64_w, i32_w]; rw [c23b0]) | skip)
       by_cases c37 : x7_12 = 4
       ·rw [if_pos c37] at H
        have c37b0 : (x7_12 == 4) = true := beq_iff_eq.mpr c37
        have c37b1 : (x7_12 != 4) = false := bne_eq_false_iff_eq.mpr c37
        clear c37
        obtain ⟨⟨t143, t144, t145⟩, A38, H⟩ := bindE_ H
        replace H : (if x129000_1.length < 3518437208883 then (spec_l21Policy.l0 kj12 a1 (wrap64 (x6_1 + 1)) s0_0 t144 t145 (x129000_1 ++ [(⟨x7_12, (⟨0, 0⟩ : S55), t143, 0⟩ : S57)])) else (none)) = some (r1, r2, r3) := H
        obtain ⟨c39, H⟩ := ifn_ H
        have LMc39 := aa_ c39
        clear c39
        obtain ⟨y146, hy146⟩ : ∃ y_ : List (S57), y_ = (x129000_1 ++ [(⟨x7_12, (⟨0, 0⟩ : S55), t143, 0⟩ : S57)]) := ⟨_, rfl⟩
        replace H : (spec_l21Policy.l0 kj12 a1 (wrap64 (x6_1 + 1)) s0_0 t144 t145 y146) = some (r1, r2, r3) := rh_ hy146 H
        have Ny146 := aa_ hy146
        clear hy146
        have H' := aa_ H
        clear H
        go_wp2_with (first | ((with_reducible refine gC_ 25 rfl ?_); refine goesC_ (some 43) Try.func25 #[.pointer (some ⟨g, 0, none⟩), .int .i64 x6_1] ?_; (with_reducible refine (spec_l01Below.calls g s0_0 t133 t134 x6_1 t143 t144 t145 w0 _ ?side1 ?side2 A38.out).mono ?_); (case side1 => exact IsS71.nw_); (case side2 => exact IsS71.bw_); rintro e w40 ⟨rfl, hi, hb, hk⟩; refine ⟨_, rfl, ?_⟩; replace HO_129000 := aa_ (Kd.R_mono (Kd.R_keep (IsS71.apart (show IsS71 w0 _ g s0_0 t133 t134 from by exact IsS71.nw_) (rr_ HO_129000) (by decide)) hk (fun _ h => h.2)) (fun _ h => h.1)); replace BK127 := aa_ (KeepBut.blk hk (g' := gb127) (o := .cells #[.slice none 0 0] 27 (0, 0)) (bk_ BK127) NB127_0.out (by simp)); replace BK128 := aa_ (KeepBut.blk hk (g' := gb128) (o := .cells #[u129000] 27 (0, 0)) (bk_ BK128) NB128_0.out (by simp)); replace BK135 := aa_ (KeepBut.blk hk (g' := gb135) (o := .cells #[.int .i64 x7_12, .int .i64 0, .int .i64 0, .int .i64 0, .int .i64 0] 57 (0, 0)) (bk_ BK135) NB135_0.out (by simp)); replace HK := aa_ (KeepBut.trans (by exact kp_) hk (.inl rfl)); replace HB := aa_ (hb); replace HI0 := aa_ (hi); (try clear hb hk hi); have hnb41 := NB135_127.out; have hnc41 := NB127_135.out; have hnb42 := NB135_128.out; have hnc42 := NB128_135.out; have hnb43 := NB135_0.out; have hnc43 := NB0_135.out; obtain ⟨hcz44, hfz44⟩ := bcf_ BK135; have hnb45 := NB128_127.out; have hnc45 := NB127_128.out; have hnb46 := NB128_0.out; have hnc46 := NB0_128.out; obtain ⟨hcz47, hfz47⟩ := bcf_ BK128) | ((with_reducible refine gate_builtin (b := .append) (xs := #[.tmp 46, .tmp 48]) rfl ?_); at_builtin; refine Kd.R_append k57 w.heap.size rfl (.tmp 46) (.tmp 48) 25 57 (.agg #[(.int .i64 0), (.int .i64 0), (.int .i64 0), (.int .i64 0), (.int .i64 0)]) 40 rfl Try.underlying25 info57 rfl (by decide) (by omega) u129000 x129000_1 (⟨x7_12, (⟨0, 0⟩ : S55), t143, 0⟩ : S57) [.int .i64 x7_12, .int .i64 0, .int .i64 0, .int .i64 t143, .int .i64 0] (fun k_ => k_ ≠ gb135) (fun _ => False) rfl (by first | (go_simp; done) | (go_simp; rfl)) ?aP (fun _ hk => hk.elim) ?aF ?aO (Below.refl _ _) ?aS ?aL ?_; (case aP => exact k57_mkM _ _ _ (⟨x7_12, (⟨0, 0⟩ : S55), t143, 0⟩ : S57)); (case aF => exact (fun k_ hk => Kd.freshB (g := gb135) (o := .cells #[.int .i64 x7_12, .int .i64 0, .int .i64 0, .int .i64 t143, .int .i64 0] 57 (0, 0)) (bk_ BK135) k_ hk)); (case aO => exact (by (with_reducible repeat (first | apply Kd.R_alloc | apply Kd.R_drewN | apply Kd.R_drew)); exact Kd.R_mono (Kd.R_far (p := ⟨gb135, 3, none⟩) (Kd.R_mono HO_129000.out (fun k_ hk => (⟨hk, hk⟩ : _ ∧ k_ ≠ gb135))) (fun _ hk => hk.2) (.int .i64 t143)) (fun _ hk => hk.1))); (case aS => exact (keep_size (w := w) (g := g) (row := none) (by exact kp_))); (case aL => have := LMc39.out; omega); intro v147 w48 ho hb hg hat; rw [← Ny146.out] at ho; replace BK127 := aa_ (blk_grown (g := gb127) (o := .cells #[.slice none 0 0] 27 (0, 0)) (bk_ BK127) hg (Kd.R_ne HO_129000.out BK127.out (by decide))); replace BK128 := aa_ (blk_grown (g := gb128) (o := .cells #[u129000] 27 (0, 0)) (bk_ BK128) hg (Kd.R_ne HO_129000.out BK128.out (by decide))); replace BK135 := aa_ (blk_grown (g := gb135) (o := .cells #[.int .i64 x7_12, .int .i64 0, .int .i64 0, .int .i64 t143, .int .i64 0] 57 (0, 0)) (bk_ BK135) hg (Kd.R_away HO_129000.out (fun _ hk => hk))); replace HB := aa_ (below_weaken (by exact IsS71.bw_) HL.out hb); replace HI0 := aa_ (IsS71.grown (show IsS71 w0 _ g s0_0 t144 t145 from by exact IsS71.nw_) hg (IsS71.own_ne HI0.out HO_129000.out (by decide))); replace HK := aa_ (KeepBut.trans (by exact kp_) (KeepBut.of_grown hg g) (Kd.R_base2 HO_129000.out)); have HO148 := aa_ (ho); clear HO_129000; clear ho hb hg hat; obtain ⟨Ao49, co49, eo49⟩ := Kd.R_slice HO148.out; subst eo49; obtain ⟨hcz50, hfz50⟩ := bcf_ BK128))
        go_roundg kj12
        case measure => have := HK1.out; have := HJ12.out; omega
        case rel => exact ⟨(wrap64 (x6_1 + 1)), (t144), (t145), (y146), (.slice Ao49 y146.length co49), rf_, H', ⟨by have := HK1.out; have := HJ12.out; omega⟩, ⟨by (with_reducible repeat (first | apply Kd.R_alloc | apply Kd.R_drewN | apply Kd.R_drew)); exact Kd.R_mono (Kd.R_far (p := ⟨gb128, 0, none⟩) (Kd.R_types HO148.out BK128.out (by decide)) (fun _ hk => hk.2) (.slice Ao49 y146.length co49)) (fun _ hk => trivial)⟩, ⟨bk_ BK127⟩, ⟨bk_ BK128⟩, ⟨by exact IsS71.nw_⟩, ⟨by exact kp_⟩, ⟨by exact IsS71.bw_⟩⟩
       ·rw [if_neg c37] at H
        have c37b0 : (x7_12 == 4) = false := beq_eq_false_iff_ne.mpr c37
        have c37b1 : (x7_12 != 4) = true := bne_iff_ne.mpr c37
        obtain ⟨⟨t149, t150, t151⟩, A51, H⟩ := bindE_ H
        replace H : ((spec_l01Below.f s0_0 t150 t151 x6_1).bind fun bt152 => (if x129000_1.length < 3518437208883 then (spec_l21Policy.l0 kj12 a1 (wrap64 (x6_1 + 1)) s0_0 bt152.2.1 bt152.2.2 (x129000_1 ++ [(⟨x7_12, (⟨0, 0⟩ : S55), t149, bt152.1⟩ : S57)])) else (none))) = some (r1, r2, r3) := H
        obtain ⟨⟨t152, t153, t154⟩, A52, H⟩ := bindE_ H
        replace H : (if x129000_1.length < 3518437208883 then (spec_l21Policy.l0 kj12 a1 (wrap64 (x6_1 + 1)) s0_0 t153 t154 (x129000_1 ++ [(⟨x7_12, (⟨0, 0⟩ : S55), t149, t152⟩ : S57)])) else (none)) = some (r1, r2, r3) := H
        obtain ⟨c53, H⟩ := ifn_ H
        have LMc53 := aa_ c53
        clear c53
        obtain ⟨y155, hy155⟩ : ∃ y_ : List (S57), y_ = (x129000_1 ++ [(⟨x7_12, (⟨0, 0⟩ : S55), t149, t152⟩ : S57)]) := ⟨_, rfl⟩
        replace H : (spec_l21Policy.l0 kj12 a1 (wrap64 (x6_1 + 1)) s0_0 t153 t154 y155) = some (r1, r2, r3) := rh_ hy155 H
        have Ny155 := aa_ hy155
        clear hy155
        have H' := aa_ H
        clear H
        go_wp2_with (first | ((with_reducible refine gC_ 25 rfl ?_); refine goesC_ (some 28) Try.func25 #[.pointer (some ⟨g, 0, none⟩), .int .i64 x6_1] ?_; (with_reducible refine (spec_l01Below.calls g s0_0 t133 t134 x6_1 t149 t150 t151 w0 _ ?side1 ?side2 A51.out).mono ?_); (case side1 => exact IsS71.nw_); (case side2 => exact IsS71.bw_); rintro e w54 ⟨rfl, hi, hb, hk⟩; refine ⟨_, rfl, ?_⟩; replace HO_129000 := aa_ (Kd.R_mono (Kd.R_keep (IsS71.apart (show IsS71 w0 _ g s0_0 t133 t134 from by exact IsS71.nw_) (rr_ HO_129000) (by decide)) hk (fun _ h => h.2)) (fun _ h => h.1)); replace BK127 := aa_ (KeepBut.blk hk (g' := gb127) (o := .cells #[.slice none 0 0] 27 (0, 0)) (bk_ BK127) NB127_0.out (by simp)); replace BK128 := aa_ (KeepBut.blk hk (g' := gb128) (o := .cells #[u129000] 27 (0, 0)) (bk_ BK128) NB128_0.out (by simp)); replace BK135 := aa_ (KeepBut.blk hk (g' := gb135) (o := .cells #[.int .i64 x7_12, .int .i64 0, .int .i64 0, .int .i64 0, .int .i64 0] 57 (0, 0)) (bk_ BK135) NB135_0.out (by simp)); replace HK := aa_ (KeepBut.trans (by exact kp_) hk (.inl rfl)); replace HB := aa_ (hb); replace HI0 := aa_ (hi); (try clear hb hk hi); have hnb55 := NB135_127.out; have hnc55 := NB127_135.out; have hnb56 := NB135_128.out; have hnc56 := NB128_135.out; have hnb57 := NB135_0.out; have hnc57 := NB0_135.out; obtain ⟨hcz58, hfz58⟩ := bcf_ BK135) | ((with_reducible refine gC_ 25 rfl ?_); refine goesC_ (some 32) Try.func25 #[.pointer (some ⟨g, 0, none⟩), .int .i64 x6_1] ?_; (with_reducible refine (spec_l01Below.calls g s0_0 t150 t151 x6_1 t152 t153 t154 w0 _ ?side1 ?side2 A52.out).mono ?_); (case side1 => exact IsS71.nw_); (case side2 => exact IsS71.bw_); rintro e w59 ⟨rfl, hi, hb, hk⟩; refine ⟨_, rfl, ?_⟩; replace HO_129000 := aa_ (Kd.R_mono (Kd.R_keep (IsS71.apart (show IsS71 w0 _ g s0_0 t150 t151 from by exact IsS71.nw_) (by (with_reducible repeat (first | apply Kd.R_alloc | apply Kd.R_drewN | apply Kd.R_drew)); exact (Kd.R_mono (Kd.R_far (p := ⟨gb135, 3, none⟩) (Kd.R_mono HO_129000.out (fun k_ hk => (⟨hk, hk⟩ : _ ∧ k_ ≠ gb135))) (fun _ hk => hk.2) (.int .i64 t149)) (fun _ h_ => h_.1))) (by decide)) hk (fun _ h => h.2)) (fun _ h => h.1)); replace BK127 := aa_ (KeepBut.blk hk (g' := gb127) (o := .cells #[.slice none 0 0] 27 (0, 0)) (bk_ BK127) NB127_0.out (by simp)); replace BK128 := aa_ (KeepBut.blk hk (g' := gb128) (o := .cells #[u129000] 27 (0, 0)) (bk_ BK128) NB128_0.out (by simp)); replace BK135 := aa_ (KeepBut.blk hk (g' := gb135) (o := .cells #[.int .i64 x7_12, .int .i64 0, .int .i64 0, .int .i64 t149, .int .i64 0] 57 (0, 0)) (bk_ BK135) NB135_0.out (by simp)); replace HK := aa_ (KeepBut.trans (by exact kp_) hk (.inl rfl)); replace HB := aa_ (hb); replace HI0 := aa_ (hi); (try clear hb hk hi); obtain ⟨hcz60, hfz60⟩ := bcf_ BK135; have hnb61 := NB128_127.out; have hnc61 := NB127_128.out; have hnb62 := NB128_0.out; have hnc62 := NB0_128.out; obtain ⟨hcz63, hfz63⟩ := bcf_ BK128) | ((with_reducible refine gate_builtin (b := .append) (xs := #[.tmp 46, .tmp 48]) rfl ?_); at_builtin; refine Kd.R_append k57 w.heap.size rfl (.tmp 46) (.tmp 48) 25 57 (.agg #[(.int .i64 0), (.int .i64 0), (.int .i64 0), (.int .i64 0), (.int .i64 0)]) 40 rfl Try.underlying25 info57 rfl (by decide) (by omega) u129000 x129000_1 (⟨x7_12, (⟨0, 0⟩ : S55), t149, t152⟩ : S57) [.int .i64 x7_12, .int .i64 0, .int .i64 0, .int .i64 t149, .int .i64 t152] (fun k_ => k_ ≠ gb135) (fun _ => False) rfl (by first | (go_simp; done) | (go_simp; rfl)) ?aP (fun _ hk => hk.elim) ?aF ?aO (Below.refl _ _) ?aS ?aL ?_; (case aP => exact k57_mkM _ _ _ (⟨x7_12, (⟨0, 0⟩ : S55), t149, t152⟩ : S57)); (case aF => exact (fun k_ hk => Kd.freshB (g := gb135) (o := .cells #[.int .i64 x7_12, .int .i64 0, .int .i64 0, .int .i64 t149, .int .i64 t152] 57 (0, 0)) (bk_ BK135) k_ hk)); (case aO => exact (by (with_reducible repeat (first | apply Kd.R_alloc | apply Kd.R_drewN | apply Kd.R_drew)); exact Kd.R_mono (Kd.R_far (p := ⟨gb135, 4, none⟩) (Kd.R_mono HO_129000.out (fun k_ hk => (⟨hk, hk⟩ : _ ∧ k_ ≠ gb135))) (fun _ hk => hk.2) (.int .i64 t152)) (fun _ hk => hk.1))); (case aS => exact (keep_size (w := w) (g := g) (row := none) (by exact kp_))); (case aL => have := LMc53.out; omega); intro v156 w64 ho hb hg hat; rw [← Ny155.out] at ho; replace BK127 := aa_ (blk_grown (g := gb127) (o := .cells #[.slice none 0 0] 27 (0, 0)) (bk_ BK127) hg (Kd.R_ne HO_129000.out BK127.out (by decide))); replace BK128 := aa_ (blk_grown (g := gb128) (o := .cells #[u129000] 27 (0, 0)) (bk_ BK128) hg (Kd.R_ne HO_129000.out BK128.out (by decide))); replace BK135 := aa_ (blk_grown (g := gb135) (o := .cells #[.int .i64 x7_12, .int .i64 0, .int .i64 0, .int .i64 t149, .int .i64 t152] 57 (0, 0)) (bk_ BK135) hg (Kd.R_away HO_129000.out (fun _ hk => hk))); replace HB := aa_ (below_weaken (by exact IsS71.bw_) HL.out hb); replace HI0 := aa_ (IsS71.grown (show IsS71 w0 _ g s0_0 t153 t154 from by exact IsS71.nw_) hg (IsS71.own_ne HI0.out HO_129000.out (by decide))); replace HK := aa_ (KeepBut.trans (by exact kp_) (KeepBut.of_grown hg g) (Kd.R_base2 HO_129000.out)); have HO157 := aa_ (ho); clear HO_129000; clear ho hb hg hat; obtain ⟨Ao65, co65, eo65⟩ := Kd.R_slice HO157.out; subst eo65; obtain ⟨hcz66, hfz66⟩ := bcf_ BK128))
        go_roundg kj12
        case measure => have := HK1.out; have := HJ12.out; omega
        case rel => exact ⟨(wrap64 (x6_1 + 1)), (t153), (t154), (y155), (.slice Ao65 y155.length co65), rf_, H', ⟨by have := HK1.out; have := HJ12.out; omega⟩, ⟨by (with_reducible repeat (first | apply Kd.R_alloc | apply Kd.R_drewN | apply Kd.R_drew)); exact Kd.R_mono (Kd.R_far (p := ⟨gb128, 0, none⟩) (Kd.R_types HO157.out BK128.out (by decide)) (fun _ hk => hk.2) (.slice Ao65 y155.length co65)) (fun _ hk => trivial)⟩, ⟨bk_ BK127⟩, ⟨bk_ BK128⟩, ⟨by exact IsS71.nw_⟩, ⟨by exact kp_⟩, ⟨by exact IsS71.bw_⟩⟩
   ·rw [if_neg c11] at H
    have c11b0 : decide (x6_1 < (wrap64 (1 + t129))) = false := decide_eq_false c11
    clear c11
    (first | rw [c11b0] | (simp only [i64_w, i32_w]; rw [c11b0]) | skip)
    simp only [Option.some.injEq, Prod.mk.injEq] at H
    obtain ⟨rfl, rfl, rfl⟩ := H
    have hnb67 := NB128_127.out
    have hnc67 := NB127_128.out
    have hnb68 := NB128_0.out
    have hnc68 := NB0_128.out
    have hcz69 := blk_cell BK128.out
    have hfz69 := blk_frozen BK128.out
    obtain ⟨Ao70, co70, eo70⟩ := Kd.R_slice HO_129000.out
    subst eo70
    have hnb71 := NB127_0.out
    have hnc71 := NB0_127.out
    have hcz72 := blk_cell BK127.out
    have hfz72 := blk_frozen BK127.out
    go_wp2
    refine bodyPost_ret (results_cell_row rfl _ _ gb127 27 #[.slice Ao70 x129000_1.length co70] (0, 0) _ rfl (bk_ BK127) Try.underlying27 rfl (by kernel_rfl)) rfl ?_
    exact ⟨_, eq_, by (with_reducible repeat (first | apply Kd.R_alloc | apply Kd.R_drewN | apply Kd.R_drew)); exact Kd.R_mono (Kd.R_far (p := ⟨gb127, 0, none⟩) (Kd.R_types HO_129000.out BK127.out (by decide)) (fun _ hk => hk.2) (.slice Ao70 x129000_1.length co70)) (fun _ hk => trivial), by exact IsS71.nw_, by exact IsS71.bw_, by exact kp_⟩
end Go.Proofs.Ytnoklfpnmopkpaa.PE
