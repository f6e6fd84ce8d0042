import Derived.Test.YteofimccoadmeaaGreatKWFh
-- printed by wip/tools
namespace Go.Proofs.YteofimccoadmeaaGreat.PA
open Go.RowKit Go.Proofs.YteofimccoadmeaaGreatW.PrintWords Go.Proofs.YteofimccoadmeaaGreatW.PrintLast Go.Proofs.YteofimccoadmeaaGreatW.PrintMore
attribute [local go_sem] max2_int min2_int max_two min_two max_three min_three max_four min_four
set_option linter.unusedVariables false
set_option linter.unusedSimpArgs false
mutual
def impl_shelvesOk.l0 : Nat → List (S108) → List (S108) → Int → Int → Option (Bool)
 | 0, _, _, _, _ => none
 | k + 1, x0, x10, x11, x12 => if x12 < x11 then (if 0 ≤ x12 then (if x12 < (x10.length : Int) then ((impl_isPlace.f ((rd_T108 x10 x12).f0)).bind fun t450 => (if t450 = true then (if x12 > 0 then (if 0 ≤ (wrap64 (x12 - 1)) then (if (wrap64 (x12 - 1)) < (x0.length : Int) then (if ((rd_T108 x0 (wrap64 (x12 - 1))).f0) ≥ ((rd_T108 x10 x12).f0) then (impl_shelvesOk.j1 k x0 x10 x11 x12 true ((rd_T108 x10 x12).f0) ((rd_T108 x10 x12).f1)) else (impl_shelvesOk.j1 k x0 x10 x11 x12 (decide ((((rd_T108 x10 x12).f1).length : Int) > 300)) ((rd_T108 x10 x12).f0) ((rd_T108 x10 x12).f1))) else (none)) else (none)) else (impl_shelvesOk.j1 k x0 x10 x11 x12 (decide ((((rd_T108 x10 x12).f1).length : Int) > 300)) ((rd_T108 x10 x12).f0) ((rd_T108 x10 x12).f1))) else (impl_shelvesOk.j1 k x0 x10 x11 x12 true ((rd_T108 x10 x12).f0) ((rd_T108 x10 x12).f1)))) else (none)) else (none)) else (some true)
def impl_shelvesOk.j1 : Nat → List (S108) → List (S108) → Int → Int → Bool → Int → List (S131) → Option (Bool)
 | 0, _, _, _, _, _, _, _ => none
 | k + 1, x0, x10, x11, x12, x41, x450000, x450001 => if x41 = true then (some false) else (impl_shelvesOk.l1 k x0 x10 x11 x12 x450001 (x450001.length : Int) 0 x450000 x450001)
def impl_shelvesOk.l1 : Nat → List (S108) → List (S108) → Int → Int → List (S131) → Int → Int → Int → List (S131) → Option (Bool)
 | 0, _, _, _, _, _, _, _, _, _ => none
 | k + 1, x0, x10, x11, x12, x43, x44, x45, x450000, x450001 => if x45 < x44 then (if 0 ≤ x45 then (if x45 < (x43.length : Int) then (if (((rd_T131 x43 x45).f0).size : Int) > 600 then (some false) else (if x45 > 0 then (if 0 ≤ (wrap64 (x45 - 1)) then (if (wrap64 (x45 - 1)) < (x450001.length : Int) then (if ((Op.bytesLess (((rd_T131 x450001 (wrap64 (x45 - 1))).f0).toList) (((rd_T131 x43 x45).f0).toList)) = true) then (impl_shelvesOk.l1 k x0 x10 x11 x12 x43 x44 (wrap64 (x45 + 1)) x450000 x450001) else (some false)) else (none)) else (none)) else (impl_shelvesOk.l1 k x0 x10 x11 x12 x43 x44 (wrap64 (x45 + 1)) x450000 x450001))) else (none)) else (none)) else (impl_shelvesOk.l0 k x0 x10 x11 (wrap64 (x12 + 1)))
end
def impl_shelvesOk.f (k : Nat) (l0 : List (S108)) : Option (Bool) := if (l0.length : Int) > 80 then (some false) else (impl_shelvesOk.l0 k l0 l0 (l0.length : Int) 0)
set_option maxHeartbeats 8000000 in
set_option maxRecDepth 100000 in
theorem impl_shelvesOk.calls (k : Nat) (A0 : Option Addr) (c0 : Nat) (l0 : List (S108)) (r : Bool) (w : World) (hr0 : Kd.C k108 w A0 l0.length l0) (hc0 : l0.length ≤ c0) (h : impl_shelvesOk.f k l0 = some r) :
  Calls Tryz.prog 69 #[.slice A0 l0.length c0] w fun e w' => e = .returned (.bool r) ∧ Below w.heap.size w w' := by
 have hu108 := Tryz.underlying108
 have hu131 := Tryz.underlying131
 have HR0 := aa_ hr0
 have HC0 := aa_ hc0
 clear hr0 hc0
 have HB := aa_ (Below.refl w.heap.size w)
 have H : (if (l0.length : Int) > 80 then (some false) else (impl_shelvesOk.l0 k l0 l0 (l0.length : Int) 0)) = some r := h
 clear h
 by_cases c2 : (l0.length : Int) > 80
 ·rw [if_pos c2] at H
  have c2b0 : decide (80 < (l0.length : Int)) = true := decide_eq_true c2
  have c2b1 : decide (80 < l0.length) = true := decide_eq_true (by omega)
  clear c2
  obtain rfl := Option.some.inj H
  go_enter Tryz.func69, Tryz.ntmps69
  go_wp2
  repeat (go_quiet (fail); try go_wp2)
  go_ret
  exact ⟨eq_, bl_⟩
 ·rw [if_neg c2] at H
  have c2b0 : decide (80 < (l0.length : Int)) = false := decide_eq_false c2
  have c2b1 : decide (80 < l0.length) = false := decide_eq_false (by omega)
  clear c2
  have H' := aa_ H
  clear H
  go_enter Tryz.func69, Tryz.ntmps69
  go_wp2
  repeat (go_quiet (fail); try go_wp2)
  go_loopg [12] k (fun kq v12 w' => ∃ (x12_1 : Int), v12 = .int .i64 x12_1 ∧ Aside0 (impl_shelvesOk.l0 kq l0 l0 (l0.length : Int) x12_1 = some r) ∧ Aside0 (kq ≤ k) ∧ Aside0 (Below w.heap.size w w'))
  case atStart => exact ⟨(0), rf_, H', ⟨Nat.le_refl _⟩, ⟨bl_⟩⟩
  case round =>
   clear H'
   try clear c2b0
   try clear c2b1
   try clear p2
   obtain ⟨x12_1, rfl, HA, HK1, HB⟩ := hrel
   cases gk with
   | zero => exact absurd HA.out (by simp [impl_shelvesOk.l0])
   | succ k1 =>
    have H := HA.out
    clear HA
    simp only [impl_shelvesOk.l0] at H
    by_cases c3 : x12_1 < (l0.length : Int)
    ·rw [if_pos c3] at H
     have c3b0 : decide (x12_1 < (l0.length : Int)) = true := decide_eq_true c3
     clear c3
     obtain ⟨c4b0, H⟩ := ifd_ H
     obtain ⟨c5b0, H⟩ := ifd_ H
     have HC6 := aa_ H
     clear H
     have p448 : 0 ≤ (x12_1 : Int) := od_
     have q448 : x12_1 < (l0.length : Int) := od_
     obtain ⟨ad448, A448_1, c448_1, e448, hx448_0, hx448_1, hl448_1, hi448_1⟩ := at_T108 HR0.out x12_1 p448 q448
     cases e448
     replace hx448_0 := cb_ HB hx448_0
     replace hx448_1 := cb_ HB hx448_1
     have HR448_1 := aa_ hi448_1
     have HC448_1 := aa_ hl448_1
     clear hi448_1 hl448_1
     replace p448 := eq_true p448
     replace q448 := eq_true q448
     go_upto_region 6 with (first | ((with_reducible refine gD_ 4 rfl ?_); (try (refine gate_guard (by rfl) ?_; dsimp only)); refine bx_ (N := 4) (cs := #[.int .i64 0, .slice none 0 0]) (t := 108) ?_; intro gb449 hg w7 hbox hb; have BK449 := aa_ (hbox); have GW449 := gs_ hg; have GE449 := gs_ hg; replace HB := hbs_ hb; clear hb hbox hg; obtain ⟨hcz8, hfz8⟩ := bcf_ BK449))
     repeat (go_quiet (first | ((with_reducible refine gD_ 4 rfl ?_); (try (refine gate_guard (by rfl) ?_; dsimp only)); refine bx_ (N := 4) (cs := #[.int .i64 0, .slice none 0 0]) (t := 108) ?_; intro gb449 hg w7 hbox hb; have BK449 := aa_ (hbox); have GW449 := gs_ hg; have GE449 := gs_ hg; replace HB := hbs_ hb; clear hb hbox hg; obtain ⟨hcz8, hfz8⟩ := bcf_ BK449)); go_upto_region 6 with (first | ((with_reducible refine gD_ 4 rfl ?_); (try (refine gate_guard (by rfl) ?_; dsimp only)); refine bx_ (N := 4) (cs := #[.int .i64 0, .slice none 0 0]) (t := 108) ?_; intro gb449 hg w7 hbox hb; have BK449 := aa_ (hbox); have GW449 := gs_ hg; have GE449 := gs_ hg; replace HB := hbs_ hb; clear hb hbox hg; obtain ⟨hcz8, hfz8⟩ := bcf_ BK449)))
     (try simp only [Act.put, sb_, sz_, ss_])
     go_cut [41] (fun v41 wc => ∃ (kq : Nat) (x41_5 : Bool), v41 = .bool x41_5 ∧ Aside0 (impl_shelvesOk.j1 kq l0 l0 (l0.length : Int) x12_1 x41_5 ((rd_T108 l0 x12_1).f0) ((rd_T108 l0 x12_1).f1) = some r) ∧ Aside0 (kq ≤ k1) ∧ Aside0 (wc.heap[gb449]? = some (.cells #[.int .i64 ((rd_T108 l0 x12_1).f0), (.slice A448_1 ((rd_T108 l0 x12_1).f1).length c448_1)] 108 (0, 0))) ∧ Aside0 (Below w.heap.size w wc))
     case first =>
      have H := HC6.out
      clear HC6
      obtain ⟨t450, A9, H⟩ := bindE_ H
      by_cases c10 : t450 = true
      ·subst c10
       replace H := ite_t_ H
       by_cases c11 : x12_1 > 0
       ·rw [if_pos c11] at H
        have c11b0 : decide (0 < x12_1) = true := decide_eq_true c11
        clear c11
        (first | rw [c11b0] | (simp only [i64_w, i32_w]; rw [c11b0]) | skip)
        obtain ⟨ji12, hji12⟩ : ∃ j_ : Int, (wrap64 (x12_1 - 1)) = j_ := ⟨_, rfl⟩
        replace H : (if 0 ≤ (ji12) then (if (ji12) < (l0.length : Int) then (if ((rd_T108 l0 (ji12)).f0) ≥ ((rd_T108 l0 x12_1).f0) then (impl_shelvesOk.j1 k1 l0 l0 (l0.length : Int) x12_1 true ((rd_T108 l0 x12_1).f0) ((rd_T108 l0 x12_1).f1)) else (impl_shelvesOk.j1 k1 l0 l0 (l0.length : Int) x12_1 (decide ((((rd_T108 l0 x12_1).f1).length : Int) > 300)) ((rd_T108 l0 x12_1).f0) ((rd_T108 l0 x12_1).f1))) else (none)) else (none)) = some r := by first | (rw [hji12] at H; exact H) | (simp only [hji12] at H ⊢; exact H)
        (try rw [hji12] at A9)
        have hji12w : (IntKind.i64.wrap (x12_1 - 1)) = ji12 := (i64_w _).trans hji12
        obtain ⟨c13b0, H⟩ := ifd_ H
        obtain ⟨c14b0, H⟩ := ifd_ H
        by_cases c15 : ((rd_T108 l0 (ji12)).f0) ≥ ((rd_T108 l0 x12_1).f0)
        ·rw [if_pos c15] at H
         have c15b0 : decide (((rd_T108 l0 x12_1).f0) ≤ ((rd_T108 l0 (ji12)).f0)) = true := decide_eq_true c15
         clear c15
         have H' := aa_ H
         clear H
         have hcz16 := blk_cell BK449.out
         have hfz16 := blk_frozen BK449.out
         have p451 : 0 ≤ ((ji12) : Int) := od_
         have q451 : (ji12) < (l0.length : Int) := od_
         obtain ⟨ad451, A451_1, c451_1, e451, hx451_0, hx451_1, hl451_1, hi451_1⟩ := at_T108 HR0.out (ji12) p451 q451
         obtain rfl : ad448 = ad451 := (by injection e451)
         have hn451_0 : ad448.block ≠ gb449 := Nat.ne_of_lt (Nat.lt_of_lt_of_le (by have := World.block_lt_of_cell? _ _ hx451_0; first | rwa [add_block] at this | exact this) GW449.out)
         have hn451_1 : ad448.block ≠ gb449 := Nat.ne_of_lt (Nat.lt_of_lt_of_le (by have := World.block_lt_of_cell? _ _ hx451_0; first | rwa [add_block] at this | exact this) GW449.out)
         replace hx451_0 := cb_ HB hx451_0
         replace hx451_1 := cb_ HB hx451_1
         have HR451_1 := aa_ hi451_1
         have HC451_1 := aa_ hl451_1
         clear hi451_1 hl451_1
         replace hx451_0 := (cell_far (p := ⟨gb449, 0, none⟩) (by first | (rw [add_block]; exact hn451_0) | (show (Addr.add _ _).block ≠ _; rw [add_block]; exact hn451_0) | exact hn451_0) (.int .i64 ((rd_T108 l0 x12_1).f0))).trans hx451_0
         replace hx451_1 := (cell_far (p := ⟨gb449, 0, none⟩) (by first | (rw [add_block]; exact hn451_0) | (show (Addr.add _ _).block ≠ _; rw [add_block]; exact hn451_0) | exact hn451_0) (.int .i64 ((rd_T108 l0 x12_1).f0))).trans hx451_1
         replace hx451_0 := (cell_far (p := ⟨gb449, 1, none⟩) (by first | (rw [add_block]; exact hn451_1) | (show (Addr.add _ _).block ≠ _; rw [add_block]; exact hn451_1) | exact hn451_1) (.slice A448_1 ((rd_T108 l0 x12_1).f1).length c448_1)).trans hx451_0
         replace hx451_1 := (cell_far (p := ⟨gb449, 1, none⟩) (by first | (rw [add_block]; exact hn451_1) | (show (Addr.add _ _).block ≠ _; rw [add_block]; exact hn451_1) | exact hn451_1) (.slice A448_1 ((rd_T108 l0 x12_1).f1).length c448_1)).trans hx451_1
         (try have hy451_0 := fun (n_ : Nat) => (show ((((w7.drewN n_).setCell ⟨gb449, 0, none⟩ (.int .i64 ((rd_T108 l0 x12_1).f0))).setCell ⟨gb449, 1, none⟩ (.slice A448_1 ((rd_T108 l0 x12_1).f1).length c448_1))).cell? _ = some _ from hx451_0))
         (try have hy451_1 := fun (n_ : Nat) => (show ((((w7.drewN n_).setCell ⟨gb449, 0, none⟩ (.int .i64 ((rd_T108 l0 x12_1).f0))).setCell ⟨gb449, 1, none⟩ (.slice A448_1 ((rd_T108 l0 x12_1).f1).length c448_1))).cell? _ = some _ from hx451_1))
         clear hn451_0
         clear hn451_1
         replace p451 := eq_true p451
         replace q451 := eq_true q451
         go_wp2_with (first | (go_at_call 65; (with_reducible refine (impl_isPlace.calls ((rd_T108 l0 x12_1).f0) true _ A9.out).mono ?_); rintro e w' ⟨rfl, ⟨nd, rfl⟩⟩; (try first | exact ⟨rfl, _, World.drewN_drewN _ _ _⟩ | exact ⟨rfl, _, Eq.trans (World.drewN_drewN _ _ _) (congrArg (World.drewN _) (Nat.add_assoc _ _ _))⟩)))
         repeat (go_quiet (first | (go_at_call 65; (with_reducible refine (impl_isPlace.calls ((rd_T108 l0 x12_1).f0) true _ A9.out).mono ?_); rintro e w' ⟨rfl, ⟨nd, rfl⟩⟩; (try first | exact ⟨rfl, _, World.drewN_drewN _ _ _⟩ | exact ⟨rfl, _, Eq.trans (World.drewN_drewN _ _ _) (congrArg (World.drewN _) (Nat.add_assoc _ _ _))⟩))); try go_wp2_with (first | (go_at_call 65; (with_reducible refine (impl_isPlace.calls ((rd_T108 l0 x12_1).f0) true _ A9.out).mono ?_); rintro e w' ⟨rfl, ⟨nd, rfl⟩⟩; (try first | exact ⟨rfl, _, World.drewN_drewN _ _ _⟩ | exact ⟨rfl, _, Eq.trans (World.drewN_drewN _ _ _) (congrArg (World.drewN _) (Nat.add_assoc _ _ _))⟩))))
         go_meet
         case rel => exact ⟨_, (true), rf_, H', ⟨by have := HK1.out; first | omega | exact Nat.le_refl _⟩, ⟨bk_ BK449⟩, ⟨bl_⟩⟩
        ·rw [if_neg c15] at H
         have c15b0 : decide (((rd_T108 l0 x12_1).f0) ≤ ((rd_T108 l0 (ji12)).f0)) = false := decide_eq_false c15
         clear c15
         have H' := aa_ H
         clear H
         have hcz17 := blk_cell BK449.out
         have hfz17 := blk_frozen BK449.out
         have p451 : 0 ≤ ((ji12) : Int) := od_
         have q451 : (ji12) < (l0.length : Int) := od_
         obtain ⟨ad451, A451_1, c451_1, e451, hx451_0, hx451_1, hl451_1, hi451_1⟩ := at_T108 HR0.out (ji12) p451 q451
         obtain rfl : ad448 = ad451 := (by injection e451)
         have hn451_0 : ad448.block ≠ gb449 := Nat.ne_of_lt (Nat.lt_of_lt_of_le (by have := World.block_lt_of_cell? _ _ hx451_0; first | rwa [add_block] at this | exact this) GW449.out)
         have hn451_1 : ad448.block ≠ gb449 := Nat.ne_of_lt (Nat.lt_of_lt_of_le (by have := World.block_lt_of_cell? _ _ hx451_0; first | rwa [add_block] at this | exact this) GW449.out)
         replace hx451_0 := cb_ HB hx451_0
         replace hx451_1 := cb_ HB hx451_1
         have HR451_1 := aa_ hi451_1
         have HC451_1 := aa_ hl451_1
         clear hi451_1 hl451_1
         replace hx451_0 := (cell_far (p := ⟨gb449, 0, none⟩) (by first | (rw [add_block]; exact hn451_0) | (show (Addr.add _ _).block ≠ _; rw [add_block]; exact hn451_0) | exact hn451_0) (.int .i64 ((rd_T108 l0 x12_1).f0))).trans hx451_0
         replace hx451_1 := (cell_far (p := ⟨gb449, 0, none⟩) (by first | (rw [add_block]; exact hn451_0) | (show (Addr.add _ _).block ≠ _; rw [add_block]; exact hn451_0) | exact hn451_0) (.int .i64 ((rd_T108 l0 x12_1).f0))).trans hx451_1
         replace hx451_0 := (cell_far (p := ⟨gb449, 1, none⟩) (by first | (rw [add_block]; exact hn451_1) | (show (Addr.add _ _).block ≠ _; rw [add_block]; exact hn451_1) | exact hn451_1) (.slice A448_1 ((rd_T108 l0 x12_1).f1).length c448_1)).trans hx451_0
         replace hx451_1 := (cell_far (p := ⟨gb449, 1, none⟩) (by first | (rw [add_block]; exact hn451_1) | (show (Addr.add _ _).block ≠ _; rw [add_block]; exact hn451_1) | exact hn451_1) (.slice A448_1 ((rd_T108 l0 x12_1).f1).length c448_1)).trans hx451_1
         (try have hy451_0 := fun (n_ : Nat) => (show ((((w7.drewN n_).setCell ⟨gb449, 0, none⟩ (.int .i64 ((rd_T108 l0 x12_1).f0))).setCell ⟨gb449, 1, none⟩ (.slice A448_1 ((rd_T108 l0 x12_1).f1).length c448_1))).cell? _ = some _ from hx451_0))
         (try have hy451_1 := fun (n_ : Nat) => (show ((((w7.drewN n_).setCell ⟨gb449, 0, none⟩ (.int .i64 ((rd_T108 l0 x12_1).f0))).setCell ⟨gb449, 1, none⟩ (.slice A448_1 ((rd_T108 l0 x12_1).f1).length c448_1))).cell? _ = some _ from hx451_1))
         clear hn451_0
         clear hn451_1
         replace p451 := eq_true p451
         replace q451 := eq_true q451
         go_wp2_with (first | (go_at_call 65; (with_reducible refine (impl_isPlace.calls ((rd_T108 l0 x12_1).f0) true _ A9.out).mono ?_); rintro e w' ⟨rfl, ⟨nd, rfl⟩⟩; (try first | exact ⟨rfl, _, World.drewN_drewN _ _ _⟩ | exact ⟨rfl, _, Eq.trans (World.drewN_drewN _ _ _) (congrArg (World.drewN _) (Nat.add_assoc _ _ _))⟩)))
         repeat (go_quiet (first | (go_at_call 65; (with_reducible refine (impl_isPlace.calls ((rd_T108 l0 x12_1).f0) true _ A9.out).mono ?_); rintro e w' ⟨rfl, ⟨nd, rfl⟩⟩; (try first | exact ⟨rfl, _, World.drewN_drewN _ _ _⟩ | exact ⟨rfl, _, Eq.trans (World.drewN_drewN _ _ _) (congrArg (World.drewN _) (Nat.add_assoc _ _ _))⟩))); try go_wp2_with (first | (go_at_call 65; (with_reducible refine (impl_isPlace.calls ((rd_T108 l0 x12_1).f0) true _ A9.out).mono ?_); rintro e w' ⟨rfl, ⟨nd, rfl⟩⟩; (try first | exact ⟨rfl, _, World.drewN_drewN _ _ _⟩ | exact ⟨rfl, _, Eq.trans (World.drewN_drewN _ _ _) (congrArg (World.drewN _) (Nat.add_assoc _ _ _))⟩))))
         go_meet
         case rel => exact ⟨_, (decide ((((rd_T108 l0 x12_1).f1).length : Int) > 300)), rf_, H', ⟨by have := HK1.out; first | omega | exact Nat.le_refl _⟩, ⟨bk_ BK449⟩, ⟨bl_⟩⟩
       ·rw [if_neg c11] at H
        have c11b0 : decide (0 < x12_1) = false := decide_eq_false c11
        clear c11
        (first | rw [c11b0] | (simp only [i64_w, i32_w]; rw [c11b0]) | skip)
        have H' := aa_ H
        clear H
        have hcz18 := blk_cell BK449.out
        have hfz18 := blk_frozen BK449.out
        go_wp2_with (first | (go_at_call 65; (with_reducible refine (impl_isPlace.calls ((rd_T108 l0 x12_1).f0) true _ A9.out).mono ?_); rintro e w' ⟨rfl, ⟨nd, rfl⟩⟩; (try first | exact ⟨rfl, _, World.drewN_drewN _ _ _⟩ | exact ⟨rfl, _, Eq.trans (World.drewN_drewN _ _ _) (congrArg (World.drewN _) (Nat.add_assoc _ _ _))⟩)))
        repeat (go_quiet (first | (go_at_call 65; (with_reducible refine (impl_isPlace.calls ((rd_T108 l0 x12_1).f0) true _ A9.out).mono ?_); rintro e w' ⟨rfl, ⟨nd, rfl⟩⟩; (try first | exact ⟨rfl, _, World.drewN_drewN _ _ _⟩ | exact ⟨rfl, _, Eq.trans (World.drewN_drewN _ _ _) (congrArg (World.drewN _) (Nat.add_assoc _ _ _))⟩))); try go_wp2_with (first | (go_at_call 65; (with_reducible refine (impl_isPlace.calls ((rd_T108 l0 x12_1).f0) true _ A9.out).mono ?_); rintro e w' ⟨rfl, ⟨nd, rfl⟩⟩; (try first | exact ⟨rfl, _, World.drewN_drewN _ _ _⟩ | exact ⟨rfl, _, Eq.trans (World.drewN_drewN _ _ _) (congrArg (World.drewN _) (Nat.add_assoc _ _ _))⟩))))
        go_meet
        case rel => exact ⟨_, (decide ((((rd_T108 l0 x12_1).f1).length : Int) > 300)), rf_, H', ⟨by have := HK1.out; first | omega | exact Nat.le_refl _⟩, ⟨bk_ BK449⟩, ⟨bl_⟩⟩
      ·replace c10 := Bool.eq_false_iff.mpr c10
       subst c10
       replace H := ite_f_ H
       have H' := aa_ H
       clear H
       have hcz19 := blk_cell BK449.out
       have hfz19 := blk_frozen BK449.out
       go_wp2_with (first | (go_at_call 65; (with_reducible refine (impl_isPlace.calls ((rd_T108 l0 x12_1).f0) false _ A9.out).mono ?_); rintro e w' ⟨rfl, ⟨nd, rfl⟩⟩; (try first | exact ⟨rfl, _, World.drewN_drewN _ _ _⟩ | exact ⟨rfl, _, Eq.trans (World.drewN_drewN _ _ _) (congrArg (World.drewN _) (Nat.add_assoc _ _ _))⟩)))
       repeat (go_quiet (first | (go_at_call 65; (with_reducible refine (impl_isPlace.calls ((rd_T108 l0 x12_1).f0) false _ A9.out).mono ?_); rintro e w' ⟨rfl, ⟨nd, rfl⟩⟩; (try first | exact ⟨rfl, _, World.drewN_drewN _ _ _⟩ | exact ⟨rfl, _, Eq.trans (World.drewN_drewN _ _ _) (congrArg (World.drewN _) (Nat.add_assoc _ _ _))⟩))); try go_wp2_with (first | (go_at_call 65; (with_reducible refine (impl_isPlace.calls ((rd_T108 l0 x12_1).f0) false _ A9.out).mono ?_); rintro e w' ⟨rfl, ⟨nd, rfl⟩⟩; (try first | exact ⟨rfl, _, World.drewN_drewN _ _ _⟩ | exact ⟨rfl, _, Eq.trans (World.drewN_drewN _ _ _) (congrArg (World.drewN _) (Nat.add_assoc _ _ _))⟩))))
       go_meet
       case rel => exact ⟨_, (true), rf_, H', ⟨by have := HK1.out; first | omega | exact Nat.le_refl _⟩, ⟨bk_ BK449⟩, ⟨bl_⟩⟩
     case rest =>
      clear HC6
      try clear c2b0
      try clear c2b1
      try clear p2
      try clear c3b0
      try clear c4b0
      try clear p4
      try clear q4
      try clear hx4
      try clear c5b0
      try clear p6
      try clear c11b0
      try clear c13b0
      try clear c14b0
      try clear c15b0
      try clear hcz16
      try clear hcz17
      try clear hcz18
      try clear hcz19
      try clear hcz8
      try clear hfz16
      try clear hfz17
      try clear hfz18
      try clear hfz19
      try clear hfz8
      try clear hx448_0
      try clear hx448_1
      try clear hx451_0
      try clear hx451_1
      try clear p2
      try clear p448
      try clear p451
      try clear q448
      try clear q451
      obtain ⟨kq, x41_5, rfl, HA, HJ5, BK449, HB⟩ := hcut
      cases kq with
      | zero => exact absurd HA.out (by simp [impl_shelvesOk.j1])
      | succ kj5 =>
       have H := HA.out
       clear HA
       simp only [impl_shelvesOk.j1] at H
       by_cases c20 : x41_5 = true
       ·subst c20
        replace H := ite_t_ H
        obtain rfl := Option.some.inj H
        go_wp2
        repeat (go_quiet (fail); try go_wp2)
        go_ret
        exact ⟨eq_, bl_⟩
       ·replace c20 := Bool.eq_false_iff.mpr c20
        subst c20
        replace H := ite_f_ H
        have H' := aa_ H
        clear H
        have hcz21 := blk_cell BK449.out
        have hfz21 := blk_frozen BK449.out
        go_wp2
        repeat (go_quiet (fail); try go_wp2)
        go_loopg [45] kj5 (fun kq v45 w' => ∃ (x45_3 : Int), v45 = .int .i64 x45_3 ∧ Aside0 (impl_shelvesOk.l1 kq l0 l0 (l0.length : Int) x12_1 ((rd_T108 l0 x12_1).f1) (((rd_T108 l0 x12_1).f1).length : Int) x45_3 ((rd_T108 l0 x12_1).f0) ((rd_T108 l0 x12_1).f1) = some r) ∧ Aside0 (kq ≤ kj5) ∧ Aside0 (w'.heap[gb449]? = some (.cells #[.int .i64 ((rd_T108 l0 x12_1).f0), (.slice A448_1 ((rd_T108 l0 x12_1).f1).length c448_1)] 108 (0, 0))) ∧ Aside0 (Below w.heap.size w w'))
        case atStart => exact ⟨(0), rf_, H', ⟨Nat.le_refl _⟩, ⟨bk_ BK449⟩, ⟨bl_⟩⟩
        case round =>
         clear H'
         try clear c2b0
         try clear c2b1
         try clear p2
         try clear c3b0
         try clear c4b0
         try clear p4
         try clear q4
         try clear hx4
         try clear c5b0
         try clear p6
         try clear c11b0
         try clear c13b0
         try clear c14b0
         try clear c15b0
         try clear hcz16
         try clear hcz17
         try clear hcz18
         try clear hcz19
         try clear hcz21
         try clear hcz8
         try clear hfz16
         try clear hfz17
         try clear hfz18
         try clear hfz19
         try clear hfz21
         try clear hfz8
         try clear hx448_0
         try clear hx448_1
         try clear hx451_0
         try clear hx451_1
         try clear p2
         try clear p4
         try clear p448
         try clear p451
         try clear p6
         try clear q4
         try clear q448
         try clear q451
         obtain ⟨x45_3, rfl, HA, HK3, BK449, HB⟩ := hrel
         cases gk with
         | zero => exact absurd HA.out (by simp [impl_shelvesOk.l1])
         | succ k3 =>
          have H := HA.out
          clear HA
          simp only [impl_shelvesOk.l1] at H
          by_cases c22 : x45_3 < (((rd_T108 l0 x12_1).f1).length : Int)
          ·rw [if_pos c22] at H
           have c22b0 : decide (x45_3 < (((rd_T108 l0 x12_1).f1).length : Int)) = true := decide_eq_true c22
           clear c22
           obtain ⟨c23b0, H⟩ := ifd_ H
           obtain ⟨c24b0, H⟩ := ifd_ H
           by_cases c25 : (((rd_T131 ((rd_T108 l0 x12_1).f1) x45_3).f0).size : Int) > 600
           ·rw [if_pos c25] at H
            have c25b0 : decide (600 < (((rd_T131 ((rd_T108 l0 x12_1).f1) x45_3).f0).size : Int)) = true := decide_eq_true c25
            have c25b1 : decide (600 < ((rd_T131 ((rd_T108 l0 x12_1).f1) x45_3).f0).size) = true := decide_eq_true (by omega)
            clear c25
            obtain rfl := Option.some.inj H
            have p452 : 0 ≤ (x45_3 : Int) := od_
            have q452 : x45_3 < (((rd_T108 l0 x12_1).f1).length : Int) := od_
            obtain ⟨ad452, e452, hx452_0, hx452_1⟩ := at_T131 (Kd.C_below HR448_1.out HB.out) x45_3 p452 q452
            cases e452
            replace p452 := eq_true p452
            replace q452 := eq_true q452
            go_wp2_with (first | ((with_reducible refine gD_ 6 rfl ?_); (try (refine gate_guard (by rfl) ?_; dsimp only)); refine box_event ?hg (N := 6) ?hd (cs := #[.string (⟨#[]⟩ : ByteArray), .bool false]) (t := 131) ?hr ?_; (case hd => rfl); (case hg => rfl); (case hr => first | (go_simp; done) | (go_simp; rfl)); intro gb453 hg w26 hbox hb; have BK453 := aa_ (hbox); have GW453 := gs_ hg; have GE453 := gs_ hg; replace HB := hbs_ hb; have NB449_453 := nl_ hg BK449; have NB453_449 := nr_ hg BK449; replace BK449 := bkb_ BK449 hb; clear hb hbox hg; have hnb27 := NB453_449.out; have hnc27 := NB449_453.out; obtain ⟨hcz28, hfz28⟩ := bcf_ BK453))
            repeat (go_quiet (first | ((with_reducible refine gD_ 6 rfl ?_); (try (refine gate_guard (by rfl) ?_; dsimp only)); refine box_event ?hg (N := 6) ?hd (cs := #[.string (⟨#[]⟩ : ByteArray), .bool false]) (t := 131) ?hr ?_; (case hd => rfl); (case hg => rfl); (case hr => first | (go_simp; done) | (go_simp; rfl)); intro gb453 hg w26 hbox hb; have BK453 := aa_ (hbox); have GW453 := gs_ hg; have GE453 := gs_ hg; replace HB := hbs_ hb; have NB449_453 := nl_ hg BK449; have NB453_449 := nr_ hg BK449; replace BK449 := bkb_ BK449 hb; clear hb hbox hg; have hnb27 := NB453_449.out; have hnc27 := NB449_453.out; obtain ⟨hcz28, hfz28⟩ := bcf_ BK453)); try go_wp2_with (first | ((with_reducible refine gD_ 6 rfl ?_); (try (refine gate_guard (by rfl) ?_; dsimp only)); refine box_event ?hg (N := 6) ?hd (cs := #[.string (⟨#[]⟩ : ByteArray), .bool false]) (t := 131) ?hr ?_; (case hd => rfl); (case hg => rfl); (case hr => first | (go_simp; done) | (go_simp; rfl)); intro gb453 hg w26 hbox hb; have BK453 := aa_ (hbox); have GW453 := gs_ hg; have GE453 := gs_ hg; replace HB := hbs_ hb; have NB449_453 := nl_ hg BK449; have NB453_449 := nr_ hg BK449; replace BK449 := bkb_ BK449 hb; clear hb hbox hg; have hnb27 := NB453_449.out; have hnc27 := NB449_453.out; obtain ⟨hcz28, hfz28⟩ := bcf_ BK453)))
            go_ret
            exact ⟨eq_, bl_⟩
           ·rw [if_neg c25] at H
            have c25b0 : decide (600 < (((rd_T131 ((rd_T108 l0 x12_1).f1) x45_3).f0).size : Int)) = false := decide_eq_false c25
            have c25b1 : decide (600 < ((rd_T131 ((rd_T108 l0 x12_1).f1) x45_3).f0).size) = false := decide_eq_false (by omega)
            clear c25
            by_cases c29 : x45_3 > 0
            ·rw [if_pos c29] at H
             have c29b0 : decide (0 < x45_3) = true := decide_eq_true c29
             clear c29
             obtain ⟨ji30, hji30⟩ : ∃ j_ : Int, (wrap64 (x45_3 - 1)) = j_ := ⟨_, rfl⟩
             replace H : (if 0 ≤ (ji30) then (if (ji30) < (((rd_T108 l0 x12_1).f1).length : Int) then (if ((Op.bytesLess (((rd_T131 ((rd_T108 l0 x12_1).f1) (ji30)).f0).toList) (((rd_T131 ((rd_T108 l0 x12_1).f1) x45_3).f0).toList)) = true) then (impl_shelvesOk.l1 k3 l0 l0 (l0.length : Int) x12_1 ((rd_T108 l0 x12_1).f1) (((rd_T108 l0 x12_1).f1).length : Int) (wrap64 (x45_3 + 1)) ((rd_T108 l0 x12_1).f0) ((rd_T108 l0 x12_1).f1)) else (some false)) else (none)) else (none)) = some r := by first | (rw [hji30] at H; exact H) | (simp only [hji30] at H ⊢; exact H)
             have hji30w : (IntKind.i64.wrap (x45_3 - 1)) = ji30 := (i64_w _).trans hji30
             obtain ⟨c31b0, H⟩ := ifd_ H
             obtain ⟨c32b0, H⟩ := ifd_ H
             by_cases c33 : ((Op.bytesLess (((rd_T131 ((rd_T108 l0 x12_1).f1) (ji30)).f0).toList) (((rd_T131 ((rd_T108 l0 x12_1).f1) x45_3).f0).toList)) = true)
             ·rw [if_pos c33] at H
              have c33b0 : (Op.bytesLess (((rd_T131 ((rd_T108 l0 x12_1).f1) (ji30)).f0).toList) (((rd_T131 ((rd_T108 l0 x12_1).f1) x45_3).f0).toList)) = true := c33
              clear c33
              have H' := aa_ H
              clear H
              have p452 : 0 ≤ (x45_3 : Int) := od_
              have q452 : x45_3 < (((rd_T108 l0 x12_1).f1).length : Int) := od_
              obtain ⟨ad452, e452, hx452_0, hx452_1⟩ := at_T131 (Kd.C_below HR448_1.out HB.out) x45_3 p452 q452
              cases e452
              replace p452 := eq_true p452
              replace q452 := eq_true q452
              go_wp2_with (first | ((with_reducible refine gD_ 6 rfl ?_); (try (refine gate_guard (by rfl) ?_; dsimp only)); refine box_event ?hg (N := 6) ?hd (cs := #[.string (⟨#[]⟩ : ByteArray), .bool false]) (t := 131) ?hr ?_; (case hd => rfl); (case hg => rfl); (case hr => first | (go_simp; done) | (go_simp; rfl)); intro gb453 hg w34 hbox hb; have BK453 := aa_ (hbox); have GW453 := gs_ hg; have GE453 := gs_ hg; replace HB := hbs_ hb; have NB449_453 := nl_ hg BK449; have NB453_449 := nr_ hg BK449; replace BK449 := bkb_ BK449 hb; clear hb hbox hg; have hnb35 := NB453_449.out; have hnc35 := NB449_453.out; obtain ⟨hcz36, hfz36⟩ := bcf_ BK453; obtain ⟨hcz37, hfz37⟩ := bcf_ BK449; have p454 : 0 ≤ ((ji30) : Int) := od_; have q454 : (ji30) < (((rd_T108 l0 x12_1).f1).length : Int) := od_; obtain ⟨ad454, e454, hx454_0, hx454_1⟩ := at_T131 HR448_1.out (ji30) p454 q454; obtain rfl : ad452 = ad454 := (by injection e454); have hn454_0 : ad452.block ≠ gb453 := Nat.ne_of_lt (Nat.lt_of_lt_of_le (by have := World.block_lt_of_cell? _ _ hx454_0; first | rwa [add_block] at this | exact this) GW453.out); have hn454_1 : ad452.block ≠ gb453 := Nat.ne_of_lt (Nat.lt_of_lt_of_le (by have := World.block_lt_of_cell? _ _ hx454_0; first | rwa [add_block] at this | exact this) GW453.out); replace hx454_0 := cb_ HB hx454_0; replace hx454_1 := cb_ HB hx454_1; replace hx454_0 := (cell_far (p := ⟨gb453, 0, none⟩) (by first | (rw [add_block]; exact hn454_0) | (show (Addr.add _ _).block ≠ _; rw [add_block]; exact hn454_0) | exact hn454_0) (.string ((rd_T131 ((rd_T108 l0 x12_1).f1) x45_3).f0))).trans hx454_0; replace hx454_1 := (cell_far (p := ⟨gb453, 0, none⟩) (by first | (rw [add_block]; exact hn454_0) | (show (Addr.add _ _).block ≠ _; rw [add_block]; exact hn454_0) | exact hn454_0) (.string ((rd_T131 ((rd_T108 l0 x12_1).f1) x45_3).f0))).trans hx454_1; replace hx454_0 := (cell_far (p := ⟨gb453, 1, none⟩) (by first | (rw [add_block]; exact hn454_1) | (show (Addr.add _ _).block ≠ _; rw [add_block]; exact hn454_1) | exact hn454_1) (.bool ((rd_T131 ((rd_T108 l0 x12_1).f1) x45_3).f1))).trans hx454_0; replace hx454_1 := (cell_far (p := ⟨gb453, 1, none⟩) (by first | (rw [add_block]; exact hn454_1) | (show (Addr.add _ _).block ≠ _; rw [add_block]; exact hn454_1) | exact hn454_1) (.bool ((rd_T131 ((rd_T108 l0 x12_1).f1) x45_3).f1))).trans hx454_1; (try have hy454_0 := fun (n_ : Nat) => (show ((((w34.drewN n_).setCell ⟨gb453, 0, none⟩ (.string ((rd_T131 ((rd_T108 l0 x12_1).f1) x45_3).f0))).setCell ⟨gb453, 1, none⟩ (.bool ((rd_T131 ((rd_T108 l0 x12_1).f1) x45_3).f1)))).cell? _ = some _ from hx454_0)); (try have hy454_1 := fun (n_ : Nat) => (show ((((w34.drewN n_).setCell ⟨gb453, 0, none⟩ (.string ((rd_T131 ((rd_T108 l0 x12_1).f1) x45_3).f0))).setCell ⟨gb453, 1, none⟩ (.bool ((rd_T131 ((rd_T108 l0 x12_1).f1) x45_3).f1)))).cell? _ = some _ from hx454_1)); clear hn454_0; clear hn454_1; replace p454 := eq_true p454; replace q454 := eq_true q454))
              repeat (go_quiet (first | ((with_reducible refine gD_ 6 rfl ?_); (try (refine gate_guard (by rfl) ?_; dsimp only)); refine box_event ?hg (N := 6) ?hd (cs := #[.string (⟨#[]⟩ : ByteArray), .bool false]) (t := 131) ?hr ?_; (case hd => rfl); (case hg => rfl); (case hr => first | (go_simp; done) | (go_simp; rfl)); intro gb453 hg w34 hbox hb; have BK453 := aa_ (hbox); have GW453 := gs_ hg; have GE453 := gs_ hg; replace HB := hbs_ hb; have NB449_453 := nl_ hg BK449; have NB453_449 := nr_ hg BK449; replace BK449 := bkb_ BK449 hb; clear hb hbox hg; have hnb35 := NB453_449.out; have hnc35 := NB449_453.out; obtain ⟨hcz36, hfz36⟩ := bcf_ BK453; obtain ⟨hcz37, hfz37⟩ := bcf_ BK449; have p454 : 0 ≤ ((ji30) : Int) := od_; have q454 : (ji30) < (((rd_T108 l0 x12_1).f1).length : Int) := od_; obtain ⟨ad454, e454, hx454_0, hx454_1⟩ := at_T131 HR448_1.out (ji30) p454 q454; obtain rfl : ad452 = ad454 := (by injection e454); have hn454_0 : ad452.block ≠ gb453 := Nat.ne_of_lt (Nat.lt_of_lt_of_le (by have := World.block_lt_of_cell? _ _ hx454_0; first | rwa [add_block] at this | exact this) GW453.out); have hn454_1 : ad452.block ≠ gb453 := Nat.ne_of_lt (Nat.lt_of_lt_of_le (by have := World.block_lt_of_cell? _ _ hx454_0; first | rwa [add_block] at this | exact this) GW453.out); replace hx454_0 := cb_ HB hx454_0; replace hx454_1 := cb_ HB hx454_1; replace hx454_0 := (cell_far (p := ⟨gb453, 0, none⟩) (by first | (rw [add_block]; exact hn454_0) | (show (Addr.add _ _).block ≠ _; rw [add_block]; exact hn454_0) | exact hn454_0) (.string ((rd_T131 ((rd_T108 l0 x12_1).f1) x45_3).f0))).trans hx454_0; replace hx454_1 := (cell_far (p := ⟨gb453, 0, none⟩) (by first | (rw [add_block]; exact hn454_0) | (show (Addr.add _ _).block ≠ _; rw [add_block]; exact hn454_0) | exact hn454_0) (.string ((rd_T131 ((rd_T108 l0 x12_1).f1) x45_3).f0))).trans hx454_1; replace hx454_0 := (cell_far (p := ⟨gb453, 1, none⟩) (by first | (rw [add_block]; exact hn454_1) | (show (Addr.add _ _).block ≠ _; rw [add_block]; exact hn454_1) | exact hn454_1) (.bool ((rd_T131 ((rd_T108 l0 x12_1).f1) x45_3).f1))).trans hx454_0; replace hx454_1 := (cell_far (p := ⟨gb453, 1, none⟩) (by first | (rw [add_block]; exact hn454_1) | (show (Addr.add _ _).block ≠ _; rw [add_block]; exact hn454_1) | exact hn454_1) (.bool ((rd_T131 ((rd_T108 l0 x12_1).f1) x45_3).f1))).trans hx454_1; (try have hy454_0 := fun (n_ : Nat) => (show ((((w34.drewN n_).setCell ⟨gb453, 0, none⟩ (.string ((rd_T131 ((rd_T108 l0 x12_1).f1) x45_3).f0))).setCell ⟨gb453, 1, none⟩ (.bool ((rd_T131 ((rd_T108 l0 x12_1).f1) x45_3).f1)))).cell? _ = some _ from hx454_0)); (try have hy454_1 := fun (n_ : Nat) => (show ((((w34.drewN n_).setCell ⟨gb453, 0, none⟩ (.string ((rd_T131 ((rd_T108 l0 x12_1).f1) x45_3).f0))).setCell ⟨gb453, 1, none⟩ (.bool ((rd_T131 ((rd_T108 l0 x12_1).f1) x45_3).f1)))).cell? _ = some _ from hx454_1)); clear hn454_0; clear hn454_1; replace p454 := eq_true p454; replace q454 := eq_true q454)); try go_wp2_with (first | ((with_reducible refine gD_ 6 rfl ?_); (try (refine gate_guard (by rfl) ?_; dsimp only)); refine box_event ?hg (N := 6) ?hd (cs := #[.string (⟨#[]⟩ : ByteArray), .bool false]) (t := 131) ?hr ?_; (case hd => rfl); (case hg => rfl); (case hr => first | (go_simp; done) | (go_simp; rfl)); intro gb453 hg w34 hbox hb; have BK453 := aa_ (hbox); have GW453 := gs_ hg; have GE453 := gs_ hg; replace HB := hbs_ hb; have NB449_453 := nl_ hg BK449; have NB453_449 := nr_ hg BK449; replace BK449 := bkb_ BK449 hb; clear hb hbox hg; have hnb35 := NB453_449.out; have hnc35 := NB449_453.out; obtain ⟨hcz36, hfz36⟩ := bcf_ BK453; obtain ⟨hcz37, hfz37⟩ := bcf_ BK449; have p454 : 0 ≤ ((ji30) : Int) := od_; have q454 : (ji30) < (((rd_T108 l0 x12_1).f1).length : Int) := od_; obtain ⟨ad454, e454, hx454_0, hx454_1⟩ := at_T131 HR448_1.out (ji30) p454 q454; obtain rfl : ad452 = ad454 := (by injection e454); have hn454_0 : ad452.block ≠ gb453 := Nat.ne_of_lt (Nat.lt_of_lt_of_le (by have := World.block_lt_of_cell? _ _ hx454_0; first | rwa [add_block] at this | exact this) GW453.out); have hn454_1 : ad452.block ≠ gb453 := Nat.ne_of_lt (Nat.lt_of_lt_of_le (by have := World.block_lt_of_cell? _ _ hx454_0; first | rwa [add_block] at this | exact this) GW453.out); replace hx454_0 := cb_ HB hx454_0; replace hx454_1 := cb_ HB hx454_1; replace hx454_0 := (cell_far (p := ⟨gb453, 0, none⟩) (by first | (rw [add_block]; exact hn454_0) | (show (Addr.add _ _).block ≠ _; rw [add_block]; exact hn454_0) | exact hn454_0) (.string ((rd_T131 ((rd_T108 l0 x12_1).f1) x45_3).f0))).trans hx454_0; replace hx454_1 := (cell_far (p := ⟨gb453, 0, none⟩) (by first | (rw [add_block]; exact hn454_0) | (show (Addr.add _ _).block ≠ _; rw [add_block]; exact hn454_0) | exact hn454_0) (.string ((rd_T131 ((rd_T108 l0 x12_1).f1) x45_3).f0))).trans hx454_1; replace hx454_0 := (cell_far (p := ⟨gb453, 1, none⟩) (by first | (rw [add_block]; exact hn454_1) | (show (Addr.add _ _).block ≠ _; rw [add_block]; exact hn454_1) | exact hn454_1) (.bool ((rd_T131 ((rd_T108 l0 x12_1).f1) x45_3).f1))).trans hx454_0; replace hx454_1 := (cell_far (p := ⟨gb453, 1, none⟩) (by first | (rw [add_block]; exact hn454_1) | (show (Addr.add _ _).block ≠ _; rw [add_block]; exact hn454_1) | exact hn454_1) (.bool ((rd_T131 ((rd_T108 l0 x12_1).f1) x45_3).f1))).trans hx454_1; (try have hy454_0 := fun (n_ : Nat) => (show ((((w34.drewN n_).setCell ⟨gb453, 0, none⟩ (.string ((rd_T131 ((rd_T108 l0 x12_1).f1) x45_3).f0))).setCell ⟨gb453, 1, none⟩ (.bool ((rd_T131 ((rd_T108 l0 x12_1).f1) x45_3).f1)))).cell? _ = some _ from hx454_0)); (try have hy454_1 := fun (n_ : Nat) => (show ((((w34.drewN n_).setCell ⟨gb453, 0, none⟩ (.string ((rd_T131 ((rd_T108 l0 x12_1).f1) x45_3).f0))).setCell ⟨gb453, 1, none⟩ (.bool ((rd_T131 ((rd_T108 l0 x12_1).f1) x45_3).f1)))).cell? _ = some _ from hx454_1)); clear hn454_0; clear hn454_1; replace p454 := eq_true p454; replace q454 := eq_true q454)))
              go_roundg k3
              case measure => have := HK1.out; have := HJ5.out; have := HK3.out; omega
              case rel => exact ⟨(wrap64 (x45_3 + 1)), rf_, H', ⟨by have := HK1.out; have := HJ5.out; have := HK3.out; omega⟩, ⟨bk_ BK449⟩, ⟨bl_⟩⟩
             ·rw [if_neg c33] at H
              have c33b0 : (Op.bytesLess (((rd_T131 ((rd_T108 l0 x12_1).f1) (ji30)).f0).toList) (((rd_T131 ((rd_T108 l0 x12_1).f1) x45_3).f0).toList)) = false := by simpa using c33
              clear c33
              obtain rfl := Option.some.inj H
              have p452 : 0 ≤ (x45_3 : Int) := od_
              have q452 : x45_3 < (((rd_T108 l0 x12_1).f1).length : Int) := od_
              obtain ⟨ad452, e452, hx452_0, hx452_1⟩ := at_T131 (Kd.C_below HR448_1.out HB.out) x45_3 p452 q452
              cases e452
              replace p452 := eq_true p452
              replace q452 := eq_true q452
              go_wp2_with (first | ((with_reducible refine gD_ 6 rfl ?_); (try (refine gate_guard (by rfl) ?_; dsimp only)); refine box_event ?hg (N := 6) ?hd (cs := #[.string (⟨#[]⟩ : ByteArray), .bool false]) (t := 131) ?hr ?_; (case hd => rfl); (case hg => rfl); (case hr => first | (go_simp; done) | (go_simp; rfl)); intro gb453 hg w38 hbox hb; have BK453 := aa_ (hbox); have GW453 := gs_ hg; have GE453 := gs_ hg; replace HB := hbs_ hb; have NB449_453 := nl_ hg BK449; have NB453_449 := nr_ hg BK449; replace BK449 := bkb_ BK449 hb; clear hb hbox hg; have hnb39 := NB453_449.out; have hnc39 := NB449_453.out; obtain ⟨hcz40, hfz40⟩ := bcf_ BK453; obtain ⟨hcz41, hfz41⟩ := bcf_ BK449; have p454 : 0 ≤ ((ji30) : Int) := od_; have q454 : (ji30) < (((rd_T108 l0 x12_1).f1).length : Int) := od_; obtain ⟨ad454, e454, hx454_0, hx454_1⟩ := at_T131 HR448_1.out (ji30) p454 q454; obtain rfl : ad452 = ad454 := (by injection e454); have hn454_0 : ad452.block ≠ gb453 := Nat.ne_of_lt (Nat.lt_of_lt_of_le (by have := World.block_lt_of_cell? _ _ hx454_0; first | rwa [add_block] at this | exact this) GW453.out); have hn454_1 : ad452.block ≠ gb453 := Nat.ne_of_lt (Nat.lt_of_lt_of_le (by have := World.block_lt_of_cell? _ _ hx454_0; first | rwa [add_block] at this | exact this) GW453.out); replace hx454_0 := cb_ HB hx454_0; replace hx454_1 := cb_ HB hx454_1; replace hx454_0 := (cell_far (p := ⟨gb453, 0, none⟩) (by first | (rw [add_block]; exact hn454_0) | (show (Addr.add _ _).block ≠ _; rw [add_block]; exact hn454_0) | exact hn454_0) (.string ((rd_T131 ((rd_T108 l0 x12_1).f1) x45_3).f0))).trans hx454_0; replace hx454_1 := (cell_far (p := ⟨gb453, 0, none⟩) (by first | (rw [add_block]; exact hn454_0) | (show (Addr.add _ _).block ≠ _; rw [add_block]; exact hn454_0) | exact hn454_0) (.string ((rd_T131 ((rd_T108 l0 x12_1).f1) x45_3).f0))).trans hx454_1; replace hx454_0 := (cell_far (p := ⟨gb453, 1, none⟩) (by first | (rw [add_block]; exact hn454_1) | (show (Addr.add _ _).block ≠ _; rw [add_block]; exact hn454_1) | exact hn454_1) (.bool ((rd_T131 ((rd_T108 l0 x12_1).f1) x45_3).f1))).trans hx454_0; replace hx454_1 := (cell_far (p := ⟨gb453, 1, none⟩) (by first | (rw [add_block]; exact hn454_1) | (show (Addr.add _ _).block ≠ _; rw [add_block]; exact hn454_1) | exact hn454_1) (.bool ((rd_T131 ((rd_T108 l0 x12_1).f1) x45_3).f1))).trans hx454_1; (try have hy454_0 := fun (n_ : Nat) => (show ((((w38.drewN n_).setCell ⟨gb453, 0, none⟩ (.string ((rd_T131 ((rd_T108 l0 x12_1).f1) x45_3).f0))).setCell ⟨gb453, 1, none⟩ (.bool ((rd_T131 ((rd_T108 l0 x12_1).f1) x45_3).f1)))).cell? _ = some _ from hx454_0)); (try have hy454_1 := fun (n_ : Nat) => (show ((((w38.drewN n_).setCell ⟨gb453, 0, none⟩ (.string ((rd_T131 ((rd_T108 l0 x12_1).f1) x45_3).f0))).setCell ⟨gb453, 1, none⟩ (.bool ((rd_T131 ((rd_T108 l0 x12_1).f1) x45_3).f1)))).cell? _ = some _ from hx454_1)); clear hn454_0; clear hn454_1; replace p454 := eq_true p454; replace q454 := eq_true q454))
              repeat (go_quiet (first | ((with_reducible refine gD_ 6 rfl ?_); (try (refine gate_guard (by rfl) ?_; dsimp only)); refine box_event ?hg (N := 6) ?hd (cs := #[.string (⟨#[]⟩ : ByteArray), .bool false]) (t := 131) ?hr ?_; (case hd => rfl); (case hg => rfl); (case hr => first | (go_simp; done) | (go_simp; rfl)); intro gb453 hg w38 hbox hb; have BK453 := aa_ (hbox); have GW453 := gs_ hg; have GE453 := gs_ hg; replace HB := hbs_ hb; have NB449_453 := nl_ hg BK449; have NB453_449 := nr_ hg BK449; replace BK449 := bkb_ BK449 hb; clear hb hbox hg; have hnb39 := NB453_449.out; have hnc39 := NB449_453.out; obtain ⟨hcz40, hfz40⟩ := bcf_ BK453; obtain ⟨hcz41, hfz41⟩ := bcf_ BK449; have p454 : 0 ≤ ((ji30) : Int) := od_; have q454 : (ji30) < (((rd_T108 l0 x12_1).f1).length : Int) := od_; obtain ⟨ad454, e454, hx454_0, hx454_1⟩ := at_T131 HR448_1.out (ji30) p454 q454; obtain rfl : ad452 = ad454 := (by injection e454); have hn454_0 : ad452.block ≠ gb453 := Nat.ne_of_lt (Nat.lt_of_lt_of_le (by have := World.block_lt_of_cell? _ _ hx454_0; first | rwa [add_block] at this | exact this) GW453.out); have hn454_1 : ad452.block ≠ gb453 := Nat.ne_of_lt (Nat.lt_of_lt_of_le (by have := World.block_lt_of_cell? _ _ hx454_0; first | rwa [add_block] at this | exact this) GW453.out); replace hx454_0 := cb_ HB hx454_0; replace hx454_1 := cb_ HB hx454_1; replace hx454_0 := (cell_far (p := ⟨gb453, 0, none⟩) (by first | (rw [add_block]; exact hn454_0) | (show (Addr.add _ _).block ≠ _; rw [add_block]; exact hn454_0) | exact hn454_0) (.string ((rd_T131 ((rd_T108 l0 x12_1).f1) x45_3).f0))).trans hx454_0; replace hx454_1 := (cell_far (p := ⟨gb453, 0, none⟩) (by first | (rw [add_block]; exact hn454_0) | (show (Addr.add _ _).block ≠ _; rw [add_block]; exact hn454_0) | exact hn454_0) (.string ((rd_T131 ((rd_T108 l0 x12_1).f1) x45_3).f0))).trans hx454_1; replace hx454_0 := (cell_far (p := ⟨gb453, 1, none⟩) (by first | (rw [add_block]; exact hn454_1) | (show (Addr.add _ _).block ≠ _; rw [add_block]; exact hn454_1) | exact hn454_1) (.bool ((rd_T131 ((rd_T108 l0 x12_1).f1) x45_3).f1))).trans hx454_0; replace hx454_1 := (cell_far (p := ⟨gb453, 1, none⟩) (by first | (rw [add_block]; exact hn454_1) | (show (Addr.add _ _).block ≠ _; rw [add_block]; exact hn454_1) | exact hn454_1) (.bool ((rd_T131 ((rd_T108 l0 x12_1).f1) x45_3).f1))).trans hx454_1; (try have hy454_0 := fun (n_ : Nat) => (show ((((w38.drewN n_).setCell ⟨gb453, 0, none⟩ (.string ((rd_T131 ((rd_T108 l0 x12_1).f1) x45_3).f0))).setCell ⟨gb453, 1, none⟩ (.bool ((rd_T131 ((rd_T108 l0 x12_1).f1) x45_3).f1)))).cell? _ = some _ from hx454_0)); (try have hy454_1 := fun (n_ : Nat) => (show ((((w38.drewN n_).setCell ⟨gb453, 0, none⟩ (.string ((rd_T131 ((rd_T108 l0 x12_1).f1) x45_3).f0))).setCell ⟨gb453, 1, none⟩ (.bool ((rd_T131 ((rd_T108 l0 x12_1).f1) x45_3).f1)))).cell? _ = some _ from hx454_1)); clear hn454_0; clear hn454_1; replace p454 := eq_true p454; replace q454 := eq_true q454)); try go_wp2_with (first | ((with_reducible refine gD_ 6 rfl ?_); (try (refine gate_guard (by rfl) ?_; dsimp only)); refine box_event ?hg (N := 6) ?hd (cs := #[.string (⟨#[]⟩ : ByteArray), .bool false]) (t := 131) ?hr ?_; (case hd => rfl); (case hg => rfl); (case hr => first | (go_simp; done) | (go_simp; rfl)); intro gb453 hg w38 hbox hb; have BK453 := aa_ (hbox); have GW453 := gs_ hg; have GE453 := gs_ hg; replace HB := hbs_ hb; have NB449_453 := nl_ hg BK449; have NB453_449 := nr_ hg BK449; replace BK449 := bkb_ BK449 hb; clear hb hbox hg; have hnb39 := NB453_449.out; have hnc39 := NB449_453.out; obtain ⟨hcz40, hfz40⟩ := bcf_ BK453; obtain ⟨hcz41, hfz41⟩ := bcf_ BK449; have p454 : 0 ≤ ((ji30) : Int) := od_; have q454 : (ji30) < (((rd_T108 l0 x12_1).f1).length : Int) := od_; obtain ⟨ad454, e454, hx454_0, hx454_1⟩ := at_T131 HR448_1.out (ji30) p454 q454; obtain rfl : ad452 = ad454 := (by injection e454); have hn454_0 : ad452.block ≠ gb453 := Nat.ne_of_lt (Nat.lt_of_lt_of_le (by have := World.block_lt_of_cell? _ _ hx454_0; first | rwa [add_block] at this | exact this) GW453.out); have hn454_1 : ad452.block ≠ gb453 := Nat.ne_of_lt (Nat.lt_of_lt_of_le (by have := World.block_lt_of_cell? _ _ hx454_0; first | rwa [add_block] at this | exact this) GW453.out); replace hx454_0 := cb_ HB hx454_0; replace hx454_1 := cb_ HB hx454_1; replace hx454_0 := (cell_far (p := ⟨gb453, 0, none⟩) (by first | (rw [add_block]; exact hn454_0) | (show (Addr.add _ _).block ≠ _; rw [add_block]; exact hn454_0) | exact hn454_0) (.string ((rd_T131 ((rd_T108 l0 x12_1).f1) x45_3).f0))).trans hx454_0; replace hx454_1 := (cell_far (p := ⟨gb453, 0, none⟩) (by first | (rw [add_block]; exact hn454_0) | (show (Addr.add _ _).block ≠ _; rw [add_block]; exact hn454_0) | exact hn454_0) (.string ((rd_T131 ((rd_T108 l0 x12_1).f1) x45_3).f0))).trans hx454_1; replace hx454_0 := (cell_far (p := ⟨gb453, 1, none⟩) (by first | (rw [add_block]; exact hn454_1) | (show (Addr.add _ _).block ≠ _; rw [add_block]; exact hn454_1) | exact hn454_1) (.bool ((rd_T131 ((rd_T108 l0 x12_1).f1) x45_3).f1))).trans hx454_0; replace hx454_1 := (cell_far (p := ⟨gb453, 1, none⟩) (by first | (rw [add_block]; exact hn454_1) | (show (Addr.add _ _).block ≠ _; rw [add_block]; exact hn454_1) | exact hn454_1) (.bool ((rd_T131 ((rd_T108 l0 x12_1).f1) x45_3).f1))).trans hx454_1; (try have hy454_0 := fun (n_ : Nat) => (show ((((w38.drewN n_).setCell ⟨gb453, 0, none⟩ (.string ((rd_T131 ((rd_T108 l0 x12_1).f1) x45_3).f0))).setCell ⟨gb453, 1, none⟩ (.bool ((rd_T131 ((rd_T108 l0 x12_1).f1) x45_3).f1)))).cell? _ = some _ from hx454_0)); (try have hy454_1 := fun (n_ : Nat) => (show ((((w38.drewN n_).setCell ⟨gb453, 0, none⟩ (.string ((rd_T131 ((rd_T108 l0 x12_1).f1) x45_3).f0))).setCell ⟨gb453, 1, none⟩ (.bool ((rd_T131 ((rd_T108 l0 x12_1).f1) x45_3).f1)))).cell? _ = some _ from hx454_1)); clear hn454_0; clear hn454_1; replace p454 := eq_true p454; replace q454 := eq_true q454)))
              go_ret
              exact ⟨by first | rfl | (simp [errW_none, errW_some] <;> rfl) | (simp only [← hji30]; first | rfl | (simp [errW_none, errW_some] <;> rfl)) | (simp [*, errW_none, errW_some] <;> rfl), bl_⟩
            ·rw [if_neg c29] at H
             have c29b0 : decide (0 < x45_3) = false := decide_eq_false c29
             clear c29
             have H' := aa_ H
             clear H
             have p452 : 0 ≤ (x45_3 : Int) := od_
             have q452 : x45_3 < (((rd_T108 l0 x12_1).f1).length : Int) := od_
             obtain ⟨ad452, e452, hx452_0, hx452_1⟩ := at_T131 (Kd.C_below HR448_1.out HB.out) x45_3 p452 q452
             cases e452
             replace p452 := eq_true p452
             replace q452 := eq_true q452
             go_wp2_with (first | ((with_reducible refine gD_ 6 rfl ?_); (try (refine gate_guard (by rfl) ?_; dsimp only)); refine box_event ?hg (N := 6) ?hd (cs := #[.string (⟨#[]⟩ : ByteArray), .bool false]) (t := 131) ?hr ?_; (case hd => rfl); (case hg => rfl); (case hr => first | (go_simp; done) | (go_simp; rfl)); intro gb453 hg w42 hbox hb; have BK453 := aa_ (hbox); have GW453 := gs_ hg; have GE453 := gs_ hg; replace HB := hbs_ hb; have NB449_453 := nl_ hg BK449; have NB453_449 := nr_ hg BK449; replace BK449 := bkb_ BK449 hb; clear hb hbox hg; have hnb43 := NB453_449.out; have hnc43 := NB449_453.out; obtain ⟨hcz44, hfz44⟩ := bcf_ BK453))
             repeat (go_quiet (first | ((with_reducible refine gD_ 6 rfl ?_); (try (refine gate_guard (by rfl) ?_; dsimp only)); refine box_event ?hg (N := 6) ?hd (cs := #[.string (⟨#[]⟩ : ByteArray), .bool false]) (t := 131) ?hr ?_; (case hd => rfl); (case hg => rfl); (case hr => first | (go_simp; done) | (go_simp; rfl)); intro gb453 hg w42 hbox hb; have BK453 := aa_ (hbox); have GW453 := gs_ hg; have GE453 := gs_ hg; replace HB := hbs_ hb; have NB449_453 := nl_ hg BK449; have NB453_449 := nr_ hg BK449; replace BK449 := bkb_ BK449 hb; clear hb hbox hg; have hnb43 := NB453_449.out; have hnc43 := NB449_453.out; obtain ⟨hcz44, hfz44⟩ := bcf_ BK453)); try go_wp2_with (first | ((with_reducible refine gD_ 6 rfl ?_); (try (refine gate_guard (by rfl) ?_; dsimp only)); refine box_event ?hg (N := 6) ?hd (cs := #[.string (⟨#[]⟩ : ByteArray), .bool false]) (t := 131) ?hr ?_; (case hd => rfl); (case hg => rfl); (case hr => first | (go_simp; done) | (go_simp; rfl)); intro gb453 hg w42 hbox hb; have BK453 := aa_ (hbox); have GW453 := gs_ hg; have GE453 := gs_ hg; replace HB := hbs_ hb; have NB449_453 := nl_ hg BK449; have NB453_449 := nr_ hg BK449; replace BK449 := bkb_ BK449 hb; clear hb hbox hg; have hnb43 := NB453_449.out; have hnc43 := NB449_453.out; obtain ⟨hcz44, hfz44⟩ := bcf_ BK453)))
             go_roundg k3
             case measure => have := HK1.out; have := HJ5.out; have := HK3.out; omega
             case rel => exact ⟨(wrap64 (x45_3 + 1)), rf_, H', ⟨by have := HK1.out; have := HJ5.out; have := HK3.out; omega⟩, ⟨bk_ BK449⟩, ⟨bl_⟩⟩
          ·rw [if_neg c22] at H
           have c22b0 : decide (x45_3 < (((rd_T108 l0 x12_1).f1).length : Int)) = false := decide_eq_false c22
           clear c22
           have H' := aa_ H
           clear H
           go_wp2
           repeat (go_quiet (fail); try go_wp2)
           go_roundg k3
           case measure => have := HK1.out; have := HJ5.out; have := HK3.out; omega
           case rel => exact ⟨(wrap64 (x12_1 + 1)), rf_, H', ⟨by have := HK1.out; have := HJ5.out; have := HK3.out; omega⟩, ⟨bl_⟩⟩
    ·rw [if_neg c3] at H
     have c3b0 : decide (x12_1 < (l0.length : Int)) = false := decide_eq_false c3
     clear c3
     obtain rfl := Option.some.inj H
     go_wp2
     repeat (go_quiet (fail); try go_wp2)
     go_ret
     exact ⟨eq_, bl_⟩
def impl_PeerOk.j0 : Nat → Bool → Int → Bool → Int → List Int → List Int → List (S108) → Option (Bool)
 | 0, _, _, _, _, _, _, _ => none
 | k + 1, x51, x456000, x456001, x456002, x456003, x456004, x456005 => if x51 = true then (some false) else ((slices_ContainsFunc_int_int.f k x456003 (clo67 x456000)).bind fun t458 => (if t458 = true then (some false) else ((slices_ContainsFunc_int_int.f k x456004 clo68).bind fun t459 => (if t459 = true then (some false) else ((impl_shelvesOk.f k x456005).bind fun t460 => (some t460))))))
def impl_PeerOk.f (k : Nat) (a0_0 : Int) (a0_1 : Bool) (a0_2 : Int) (l0_3 : List Int) (l0_4 : List Int) (l0_5 : List (S108)) : Option (Bool) := (impl_isPlace.f a0_0).bind fun t456 => (if t456 = true then (if a0_1 = true then (if a0_2 = (-1) then (if (l0_3.length : Int) > 3 then (impl_PeerOk.j0 k true a0_0 a0_1 a0_2 l0_3 l0_4 l0_5) else (impl_PeerOk.j0 k ((l0_4.length : Int) != 8) a0_0 a0_1 a0_2 l0_3 l0_4 l0_5)) else ((impl_isPlace.f a0_2).bind fun t457 => (if t457 = true then (if (l0_3.length : Int) > 3 then (impl_PeerOk.j0 k true a0_0 a0_1 a0_2 l0_3 l0_4 l0_5) else (impl_PeerOk.j0 k ((l0_4.length : Int) != 8) a0_0 a0_1 a0_2 l0_3 l0_4 l0_5)) else (impl_PeerOk.j0 k true a0_0 a0_1 a0_2 l0_3 l0_4 l0_5)))) else (if a0_2 = 0 then (if (l0_3.length : Int) = 0 then (if (l0_4.length : Int) = 0 then (some ((l0_5.length : Int) == 0)) else (some false)) else (some false)) else (some false))) else (some false))
set_option maxHeartbeats 8000000 in
set_option maxRecDepth 100000 in
theorem impl_PeerOk.calls (k : Nat) (a0_0 : Int) (a0_1 : Bool) (a0_2 : Int) (A0_3 : Option Addr) (c0_3 : Nat) (l0_3 : List Int) (A0_4 : Option Addr) (c0_4 : Nat) (l0_4 : List Int) (A0_5 : Option Addr) (c0_5 : Nat) (l0_5 : List (S108)) (r : Bool) (w : World) (hr0_3 : Kd.C (Kd.int .i64) w A0_3 l0_3.length l0_3) (hc0_3 : l0_3.length ≤ c0_3) (hr0_4 : Kd.C (Kd.int .i64) w A0_4 l0_4.length l0_4) (hc0_4 : l0_4.length ≤ c0_4) (hr0_5 : Kd.C k108 w A0_5 l0_5.length l0_5) (hc0_5 : l0_5.length ≤ c0_5) (h : impl_PeerOk.f k a0_0 a0_1 a0_2 l0_3 l0_4 l0_5 = some r) :
  Calls Tryz.prog 42 #[.agg #[.int .i64 a0_0, .bool a0_1, .int .i64 a0_2, .slice A0_3 l0_3.length c0_3, .slice A0_4 l0_4.length c0_4, .slice A0_5 l0_5.length c0_5]] w fun e w' => e = .returned (.bool r) ∧ Below w.heap.size w w' := by
 have hu68 := Tryz.underlying68
 have hmf : ∀ (fn : Fn) (first cap : Array Value) (w : World), (Instr.makeFunc fn first cap).run Tryz.prog w = .ok (.func fn first cap) w := fun _ _ _ _ => rfl
 have HR0_3 := aa_ hr0_3
 have HC0_3 := aa_ hc0_3
 clear hr0_3 hc0_3
 have HR0_4 := aa_ hr0_4
 have HC0_4 := aa_ hc0_4
 clear hr0_4 hc0_4
 have HR0_5 := aa_ hr0_5
 have HC0_5 := aa_ hc0_5
 clear hr0_5 hc0_5
 have HB := aa_ (Below.refl w.heap.size w)
 have H : ((impl_isPlace.f a0_0).bind fun t456 => (if t456 = true then (if a0_1 = true then (if a0_2 = (-1) then (if (l0_3.length : Int) > 3 then (impl_PeerOk.j0 k true a0_0 a0_1 a0_2 l0_3 l0_4 l0_5) else (impl_PeerOk.j0 k ((l0_4.length : Int) != 8) a0_0 a0_1 a0_2 l0_3 l0_4 l0_5)) else ((impl_isPlace.f a0_2).bind fun t457 => (if t457 = true then (if (l0_3.length : Int) > 3 then (impl_PeerOk.j0 k true a0_0 a0_1 a0_2 l0_3 l0_4 l0_5) else (impl_PeerOk.j0 k ((l0_4.length : Int) != 8) a0_0 a0_1 a0_2 l0_3 l0_4 l0_5)) else (impl_PeerOk.j0 k true a0_0 a0_1 a0_2 l0_3 l0_4 l0_5)))) else (if a0_2 = 0 then (if (l0_3.length : Int) = 0 then (if (l0_4.length : Int) = 0 then (some ((l0_5.length : Int) == 0)) else (some false)) else (some false)) else (some false))) else (some false))) = some r := h
 clear h
 obtain ⟨t456, A2, H⟩ := bindE_ H
 have HC3 := aa_ H
 clear H
 go_enter Tryz.func42, Tryz.ntmps42
 go_upto_if 6 with (first | ((with_reducible refine gD_ 1 rfl ?_); (try (refine gate_guard (by rfl) ?_; dsimp only)); refine bx_ (N := 1) (cs := #[.int .i64 a0_0, .bool a0_1, .int .i64 a0_2, .slice A0_3 l0_3.length c0_3, .slice A0_4 l0_4.length c0_4, .slice A0_5 l0_5.length c0_5]) (t := 68) ?_; intro gb455 hg w4 hbox hb; have BK455 := aa_ (hbox); have GW455 := gs_ hg; have GE455 := gs_ hg; replace HB := hbs_ hb; clear hb hbox hg; obtain ⟨hcz5, hfz5⟩ := bcf_ BK455) | ((with_reducible refine gC_ 65 rfl ?_); refine goesC_ (some 5) Tryz.func65 #[.int .i64 a0_0] ?_; (with_reducible refine (impl_isPlace.calls a0_0 t456 _ A2.out).mono ?_); rintro e w' ⟨rfl, ⟨nd, rfl⟩⟩; refine ⟨_, rfl, ?_⟩))
 (try simp only [Act.put, sb_, sz_, ss_])
 have H := HC3.out
 clear HC3
 by_cases c6 : t456 = true
 ·subst c6
  replace H := ite_t_ H
  by_cases c7 : a0_1 = true
  ·subst c7
   replace H := ite_t_ H
   have HC8 := aa_ H
   clear H
   have hcz9 := blk_cell BK455.out
   have hfz9 := blk_frozen BK455.out
   go_upto_region 5 with (fail)
   go_cut [51] (fun v51 wc => ∃ (kq : Nat) (x51_7 : Bool), v51 = .bool x51_7 ∧ Aside0 (impl_PeerOk.j0 kq x51_7 a0_0 true a0_2 l0_3 l0_4 l0_5 = some r) ∧ Aside0 (kq ≤ k) ∧ Aside0 (wc.heap[gb455]? = some (.cells #[.int .i64 a0_0, .bool true, .int .i64 a0_2, (.slice A0_3 l0_3.length c0_3), (.slice A0_4 l0_4.length c0_4), (.slice A0_5 l0_5.length c0_5)] 68 (0, 0))) ∧ Aside0 (Below w.heap.size w wc))
   case first =>
    have H := HC8.out
    clear HC8
    by_cases c10 : a0_2 = (-1)
    ·rw [if_pos c10] at H
     have c10b0 : (a0_2 == (-1)) = true := beq_iff_eq.mpr c10
     have c10b1 : (a0_2 != (-1)) = false := bne_eq_false_iff_eq.mpr c10
     clear c10
     (first | rw [c10b0] | (simp only [i64_w, i32_w]; rw [c10b0]) | skip)
     by_cases c11 : (l0_3.length : Int) > 3
     ·rw [if_pos c11] at H
      have c11b0 : decide (3 < (l0_3.length : Int)) = true := decide_eq_true c11
      have c11b1 : decide (3 < l0_3.length) = true := decide_eq_true (by omega)
      clear c11
      have H' := aa_ H
      clear H
      have hcz12 := blk_cell BK455.out
      have hfz12 := blk_frozen BK455.out
      go_wp2
      go_meet
      case rel => exact ⟨_, (true), rf_, H', ⟨by first | omega | exact Nat.le_refl _⟩, ⟨bk_ BK455⟩, ⟨bl_⟩⟩
     ·rw [if_neg c11] at H
      have c11b0 : decide (3 < (l0_3.length : Int)) = false := decide_eq_false c11
      have c11b1 : decide (3 < l0_3.length) = false := decide_eq_false (by omega)
      clear c11
      have H' := aa_ H
      clear H
      have hcz13 := blk_cell BK455.out
      have hfz13 := blk_frozen BK455.out
      go_wp2
      go_meet
      case rel => exact ⟨_, (((l0_4.length : Int) != 8)), rf_, H', ⟨by first | omega | exact Nat.le_refl _⟩, ⟨bk_ BK455⟩, ⟨bl_⟩⟩
    ·rw [if_neg c10] at H
     have c10b0 : (a0_2 == (-1)) = false := beq_eq_false_iff_ne.mpr c10
     have c10b1 : (a0_2 != (-1)) = true := bne_iff_ne.mpr c10
     (first | rw [c10b0] | (simp only [i64_w, i32_w]; rw [c10b0]) | skip)
     obtain ⟨t457, A14, H⟩ := bindE_ H
     by_cases c15 : t457 = true
     ·subst c15
      replace H := ite_t_ H
      by_cases c16 : (l0_3.length : Int) > 3
      ·rw [if_pos c16] at H
       have c16b0 : decide (3 < (l0_3.length : Int)) = true := decide_eq_true c16
       have c16b1 : decide (3 < l0_3.length) = true := decide_eq_true (by omega)
       clear c16
       have H' := aa_ H
       clear H
       have hcz17 := blk_cell BK455.out
       have hfz17 := blk_frozen BK455.out
       go_wp2_with (first | (go_at_call 65; (with_reducible refine (impl_isPlace.calls a0_2 true _ A14.out).mono ?_); rintro e w' ⟨rfl, ⟨nd, rfl⟩⟩))
       go_meet
       case rel => exact ⟨_, (true), rf_, H', ⟨by first | omega | exact Nat.le_refl _⟩, ⟨bk_ BK455⟩, ⟨bl_⟩⟩
      ·rw [if_neg c16] at H
       have c16b0 : decide (3 < (l0_3.length : Int)) = false := decide_eq_false c16
       have c16b1 : decide (3 < l0_3.length) = false := decide_eq_false (by omega)
       clear c16
       have H' := aa_ H
       clear H
       have hcz18 := blk_cell BK455.out
       have hfz18 := blk_frozen BK455.out
       go_wp2_with (first | (go_at_call 65; (with_reducible refine (impl_isPlace.calls a0_2 true _ A14.out).mono ?_); rintro e w' ⟨rfl, ⟨nd, rfl⟩⟩))
       go_meet
       case rel => exact ⟨_, (((l0_4.length : Int) != 8)), rf_, H', ⟨by first | omega | exact Nat.le_refl _⟩, ⟨bk_ BK455⟩, ⟨bl_⟩⟩
     ·replace c15 := Bool.eq_false_iff.mpr c15
      subst c15
      replace H := ite_f_ H
      have H' := aa_ H
      clear H
      have hcz19 := blk_cell BK455.out
      have hfz19 := blk_frozen BK455.out
      go_wp2_with (first | (go_at_call 65; (with_reducible refine (impl_isPlace.calls a0_2 false _ A14.out).mono ?_); rintro e w' ⟨rfl, ⟨nd, rfl⟩⟩))
      go_meet
      case rel => exact ⟨_, (true), rf_, H', ⟨by first | omega | exact Nat.le_refl _⟩, ⟨bk_ BK455⟩, ⟨bl_⟩⟩
   case rest =>
    clear HC8
    try clear p2
    try clear c10b0
    try clear c10b1
    try clear c11b0
    try clear c11b1
    try clear c16b0
    try clear c16b1
    try clear hcz12
    try clear hcz13
    try clear hcz17
    try clear hcz18
    try clear hcz19
    try clear hcz5
    try clear hcz9
    try clear hfz12
    try clear hfz13
    try clear hfz17
    try clear hfz18
    try clear hfz19
    try clear hfz5
    try clear hfz9
    obtain ⟨kq, x51_7, rfl, HA, HJ7, BK455, HB⟩ := hcut
    cases kq with
    | zero => exact absurd HA.out (by simp [impl_PeerOk.j0])
    | succ kj7 =>
     have H := HA.out
     clear HA
     simp only [impl_PeerOk.j0] at H
     by_cases c20 : x51_7 = true
     ·subst c20
      replace H := ite_t_ H
      obtain rfl := Option.some.inj H
      go_wp2
      go_ret
      exact ⟨eq_, bl_⟩
     ·replace c20 := Bool.eq_false_iff.mpr c20
      subst c20
      replace H := ite_f_ H
      obtain ⟨t458, A21, H⟩ := bindE_ H
      have HC22 := aa_ H
      clear H
      have hcz23 := blk_cell BK455.out
      have hfz23 := blk_frozen BK455.out
      go_upto_if 55 with (first | ((with_reducible refine gC_ 66 rfl ?_); refine goesC_ (some 55) Tryz.func66 #[.slice A0_3 l0_3.length c0_3, .func (.func 67) #[] #[.pointer (some ⟨gb455, 0, none⟩)]] ?_; (with_reducible refine (slices_ContainsFunc_int_int.calls kj7 _ _ l0_3 (clo67 a0_0) 67 #[.pointer (some ⟨gb455, 0, none⟩)] t458 _ ?side1 ?side2 ?side3 A21.out).mono ?_); (case side1 => repeat (first | exact (Kd.C_below HR0_3.out HB.out) | (with_reducible refine Kd.C_alloc ?_ _) | (with_reducible refine Kd.C_drewN ?_ _) | (with_reducible refine Kd.C_drew ?_))); (case side2 => exact HC0_3.out); (case side3 => exact fun W_ hW_ => clo67_ok _ _ (bkb_ BK455 hW_).out rfl); rintro e w24 ⟨rfl, hb⟩; refine ⟨_, rfl, ?_⟩; replace BK455 := bkb_ BK455 hb; replace HB := hbs_ hb; clear hb))
      (try simp only [Act.put, sb_, sz_, ss_])
      have H := HC22.out
      clear HC22
      by_cases c25 : t458 = true
      ·subst c25
       replace H := ite_t_ H
       obtain rfl := Option.some.inj H
       go_wp2
       go_ret
       exact ⟨eq_, bl_⟩
      ·replace c25 := Bool.eq_false_iff.mpr c25
       subst c25
       replace H := ite_f_ H
       obtain ⟨t459, A26, H⟩ := bindE_ H
       by_cases c27 : t459 = true
       ·subst c27
        replace H := ite_t_ H
        obtain rfl := Option.some.inj H
        have hcz28 := blk_cell BK455.out
        have hfz28 := blk_frozen BK455.out
        go_wp2_with (first | ((with_reducible refine gC_ 66 rfl ?_); refine goesC_ (some 58) Tryz.func66 #[.slice A0_4 l0_4.length c0_4, .func (.func 68) #[] #[]] ?_; (with_reducible refine (slices_ContainsFunc_int_int.calls kj7 _ _ l0_4 clo68 68 #[] true _ ?side1 ?side2 ?side3 A26.out).mono ?_); (case side1 => repeat (first | exact (Kd.C_below HR0_4.out HB.out) | (with_reducible refine Kd.C_alloc ?_ _) | (with_reducible refine Kd.C_drewN ?_ _) | (with_reducible refine Kd.C_drew ?_))); (case side2 => exact HC0_4.out); (case side3 => exact fun W_ hW_ => clo68_ok); rintro e w29 ⟨rfl, hb⟩; refine ⟨_, rfl, ?_⟩; replace BK455 := bkb_ BK455 hb; replace HB := hbs_ hb; clear hb))
        go_ret
        exact ⟨eq_, bl_⟩
       ·replace c27 := Bool.eq_false_iff.mpr c27
        subst c27
        replace H := ite_f_ H
        obtain ⟨t460, A30, H⟩ := bindE_ H
        obtain rfl := Option.some.inj H
        have hcz31 := blk_cell BK455.out
        have hfz31 := blk_frozen BK455.out
        go_wp2_with (first | ((with_reducible refine gC_ 66 rfl ?_); refine goesC_ (some 58) Tryz.func66 #[.slice A0_4 l0_4.length c0_4, .func (.func 68) #[] #[]] ?_; (with_reducible refine (slices_ContainsFunc_int_int.calls kj7 _ _ l0_4 clo68 68 #[] false _ ?side1 ?side2 ?side3 A26.out).mono ?_); (case side1 => repeat (first | exact (Kd.C_below HR0_4.out HB.out) | (with_reducible refine Kd.C_alloc ?_ _) | (with_reducible refine Kd.C_drewN ?_ _) | (with_reducible refine Kd.C_drew ?_))); (case side2 => exact HC0_4.out); (case side3 => exact fun W_ hW_ => clo68_ok); rintro e w32 ⟨rfl, hb⟩; refine ⟨_, rfl, ?_⟩; replace BK455 := bkb_ BK455 hb; replace HB := hbs_ hb; clear hb; obtain ⟨hcz33, hfz33⟩ := bcf_ BK455) | (go_at_call 69; (with_reducible refine (impl_shelvesOk.calls kj7 _ _ l0_5 t460 _ ?side1 ?side2 A30.out).mono ?_); (case side1 => repeat (first | exact (Kd.C_below HR0_5.out HB.out) | (with_reducible refine Kd.C_alloc ?_ _) | (with_reducible refine Kd.C_drewN ?_ _) | (with_reducible refine Kd.C_drew ?_))); (case side2 => exact HC0_5.out); rintro e w34 ⟨rfl, hb⟩; replace BK455 := bkb_ BK455 hb; replace HB := hbs_ hb; clear hb))
        go_ret
        exact ⟨eq_, bl_⟩
  ·replace c7 := Bool.eq_false_iff.mpr c7
   subst c7
   replace H := ite_f_ H
   by_cases c35 : a0_2 = 0
   ·rw [if_pos c35] at H
    have c35b0 : (a0_2 == 0) = true := beq_iff_eq.mpr c35
    have c35b1 : (a0_2 != 0) = false := bne_eq_false_iff_eq.mpr c35
    clear c35
    by_cases c36 : (l0_3.length : Int) = 0
    ·rw [if_pos c36] at H
     have c36b0 : ((l0_3.length : Int) == 0) = true := beq_iff_eq.mpr c36
     have c36b1 : ((l0_3.length : Int) != 0) = false := bne_eq_false_iff_eq.mpr c36
     clear c36
     by_cases c37 : (l0_4.length : Int) = 0
     ·rw [if_pos c37] at H
      have c37b0 : ((l0_4.length : Int) == 0) = true := beq_iff_eq.mpr c37
      have c37b1 : ((l0_4.length : Int) != 0) = false := bne_eq_false_iff_eq.mpr c37
      clear c37
      obtain rfl := Option.some.inj H
      have hcz38 := blk_cell BK455.out
      have hfz38 := blk_frozen BK455.out
      go_wp2
      go_ret
      exact ⟨eq_, bl_⟩
     ·rw [if_neg c37] at H
      have c37b0 : ((l0_4.length : Int) == 0) = false := beq_eq_false_iff_ne.mpr c37
      have c37b1 : ((l0_4.length : Int) != 0) = true := bne_iff_ne.mpr c37
      have c37b2 : ¬ (l0_4 = []) := fun h_ => c37 (by rw [h_]; rfl)
      obtain rfl := Option.some.inj H
      have hcz39 := blk_cell BK455.out
      have hfz39 := blk_frozen BK455.out
      go_wp2
      go_ret
      exact ⟨eq_, bl_⟩
    ·rw [if_neg c36] at H
     have c36b0 : ((l0_3.length : Int) == 0) = false := beq_eq_false_iff_ne.mpr c36
     have c36b1 : ((l0_3.length : Int) != 0) = true := bne_iff_ne.mpr c36
     have c36b2 : ¬ (l0_3 = []) := fun h_ => c36 (by rw [h_]; rfl)
     obtain rfl := Option.some.inj H
     have hcz40 := blk_cell BK455.out
     have hfz40 := blk_frozen BK455.out
     go_wp2
     go_ret
     exact ⟨eq_, bl_⟩
   ·rw [if_neg c35] at H
    have c35b0 : (a0_2 == 0) = false := beq_eq_false_iff_ne.mpr c35
    have c35b1 : (a0_2 != 0) = true := bne_iff_ne.mpr c35
    obtain rfl := Option.some.inj H
    have hcz41 := blk_cell BK455.out
    have hfz41 := blk_frozen BK455.out
    go_wp2
    go_ret
    exact ⟨eq_, bl_⟩
 ·replace c6 := Bool.eq_false_iff.mpr c6
  subst c6
  replace H := ite_f_ H
  obtain rfl := Option.some.inj H
  go_wp2
  go_ret
  exact ⟨eq_, bl_⟩
def impl_Peer_72.l0 : Nat → List (S68) → (S68 → Option Bool) → Int → Int → Option (Int)
 | 0, _, _, _, _ => none
 | k + 1, x0, x1, x7, x8 => if x8 < x7 then (if 0 ≤ x8 then (if x8 < (x0.length : Int) then ((x1 (⟨(rd_T68 x0 x8).f0, (rd_T68 x0 x8).f1, (rd_T68 x0 x8).f2, (rd_T68 x0 x8).f3, (rd_T68 x0 x8).f4, (rd_T68 x0 x8).f5⟩ : S68)).bind fun t462 => (if t462 = true then (some x8) else (impl_Peer_72.l0 k x0 x1 x7 (wrap64 (x8 + 1))))) else (none)) else (none)) else (some (-1))
def impl_Peer_72.f (k : Nat) (l0 : List (S68)) (a1 : (S68 → Option Bool)) : Option (Int) := impl_Peer_72.l0 k l0 a1 (l0.length : Int) 0
set_option maxHeartbeats 8000000 in
set_option maxRecDepth 100000 in
theorem impl_Peer_72.calls (k : Nat) (A0 : Option Addr) (c0 : Nat) (l0 : List (S68)) (a1 : (S68 → Option Bool)) (na1_ : Nat) (ga1_ : Array Value) (r : Int) (w : World) (hr0 : Kd.C k68 w A0 l0.length l0) (hc0 : l0.length ≤ c0) (hq1 : ∀ W_, Below w.heap.size w W_ → FnOk68 a1 na1_ ga1_ W_) (h : impl_Peer_72.f k l0 a1 = some r) :
  Calls Tryz.prog 72 #[.slice A0 l0.length c0, .func (.func na1_) #[] ga1_] w fun e w' => e = .returned (.int .i64 r) ∧ Below w.heap.size w w' := by
 have hu68 := Tryz.underlying68
 have HR0 := aa_ hr0
 have HC0 := aa_ hc0
 clear hr0 hc0
 have HFN1 := aa_ hq1
 have eg1 := (hq1 w (Below.refl _ _)).1
 clear hq1
 have HB := aa_ (Below.refl w.heap.size w)
 have H : (impl_Peer_72.l0 k l0 a1 (l0.length : Int) 0) = some r := h
 clear h
 have H' := aa_ H
 clear H
 go_enter Tryz.func72, Tryz.ntmps72
 go_wp2
 go_loopg [8] k (fun kq v8 w' => ∃ (x8_1 : Int), v8 = .int .i64 x8_1 ∧ Aside0 (impl_Peer_72.l0 kq l0 a1 (l0.length : Int) x8_1 = some r) ∧ Aside0 (kq ≤ k) ∧ Aside0 (Below w.heap.size w w'))
 case atStart => exact ⟨(0), rf_, H', ⟨Nat.le_refl _⟩, ⟨bl_⟩⟩
 case round =>
  clear H'
  try clear q1
  try clear p2
  obtain ⟨x8_1, rfl, HA, HK1, HB⟩ := hrel
  cases gk with
  | zero => exact absurd HA.out (by simp [impl_Peer_72.l0])
  | succ k1 =>
   have H := HA.out
   clear HA
   simp only [impl_Peer_72.l0] at H
   by_cases c3 : x8_1 < (l0.length : Int)
   ·rw [if_pos c3] at H
    have c3b0 : decide (x8_1 < (l0.length : Int)) = true := decide_eq_true c3
    clear c3
    obtain ⟨c4b0, H⟩ := ifd_ H
    obtain ⟨c5b0, H⟩ := ifd_ H
    obtain ⟨t462, A6, H⟩ := bindE_ H
    have HC7 := aa_ H
    clear H
    have p461 : 0 ≤ (x8_1 : Int) := od_
    have q461 : x8_1 < (l0.length : Int) := od_
    obtain ⟨ad461, A461_3, c461_3, A461_4, c461_4, A461_5, c461_5, e461, hx461_0, hx461_1, hx461_2, hx461_3, hx461_4, hx461_5, hl461_3, hi461_3, hl461_4, hi461_4, hl461_5, hi461_5⟩ := at_T68 HR0.out x8_1 p461 q461
    cases e461
    replace hx461_0 := cb_ HB hx461_0
    replace hx461_1 := cb_ HB hx461_1
    replace hx461_2 := cb_ HB hx461_2
    replace hx461_3 := cb_ HB hx461_3
    replace hx461_4 := cb_ HB hx461_4
    replace hx461_5 := cb_ HB hx461_5
    have HR461_3 := aa_ hi461_3
    have HC461_3 := aa_ hl461_3
    clear hi461_3 hl461_3
    have HR461_4 := aa_ hi461_4
    have HC461_4 := aa_ hl461_4
    clear hi461_4 hl461_4
    have HR461_5 := aa_ hi461_5
    have HC461_5 := aa_ hl461_5
    clear hi461_5 hl461_5
    replace p461 := eq_true p461
    replace q461 := eq_true q461
    go_upto_if 16 with (first | (go_at_fn na1_; (refine ((HFN1.out _ bl_).2 _ _ _ _ _ _ _ _ A6.out).mono ?_); rintro e w8 ⟨rfl, hb⟩; replace HB := hbs_ hb; clear hb))
    (try simp only [Act.put, sb_, sz_, ss_])
    have H := HC7.out
    clear HC7
    by_cases c9 : t462 = true
    ·subst c9
     replace H := ite_t_ H
     obtain rfl := Option.some.inj H
     go_wp2
     go_ret
     exact ⟨eq_, bl_⟩
    ·replace c9 := Bool.eq_false_iff.mpr c9
     subst c9
     replace H := ite_f_ H
     have H' := aa_ H
     clear H
     go_wp2
     go_roundg k1
     case measure => have := HK1.out; omega
     case rel => exact ⟨(wrap64 (x8_1 + 1)), rf_, H', ⟨by have := HK1.out; omega⟩, ⟨bl_⟩⟩
   ·rw [if_neg c3] at H
    have c3b0 : decide (x8_1 < (l0.length : Int)) = false := decide_eq_false c3
    clear c3
    obtain rfl := Option.some.inj H
    go_wp2
    go_ret
    exact ⟨eq_, bl_⟩
-- NOT PRINTED: function 87 (impl_peerHere_1)
end Go.Proofs.YteofimccoadmeaaGreat.PA
