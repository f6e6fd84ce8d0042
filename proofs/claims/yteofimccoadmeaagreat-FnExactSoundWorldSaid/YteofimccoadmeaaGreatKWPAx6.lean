import Derived.Test.YteofimccoadmeaaGreatKWPAx5
-- printed by wip/tools
namespace Go.Proofs.YteofimccoadmeaaGreat.PA
open Go.RowKit Go.Proofs.YteofimccoadmeaaGreatW.PrintWords Go.Proofs.YteofimccoadmeaaGreatW.PrintLast Go.Proofs.YteofimccoadmeaaGreatW.PrintMore
attribute [local go_sem] max2_int min2_int max_two min_two max_three min_three max_four min_four
set_option linter.unusedVariables false
set_option linter.unusedSimpArgs false
def spec_PeerAt.l0 : Nat → Int → Int → List (S68) → Option (Int)
 | 0, _, _, _ => none
 | k + 1, x1, x5, x150000 => if x5 < (x150000.length : Int) then (if 0 ≤ x5 then (if (rd_T68 x150000 x5).f1 = true then (if ((rd_T68 x150000 x5).f0) = x1 then (some x5) else (spec_PeerAt.l0 k x1 (wrap64 (x5 + 1)) x150000)) else (spec_PeerAt.l0 k x1 (wrap64 (x5 + 1)) x150000)) else (none)) else (some (-1))
def spec_PeerAt.f (k : Nat) (l0_0 : List (S68)) (a1 : Int) : Option (Int) := spec_PeerAt.l0 k a1 0 l0_0
set_option maxHeartbeats 8000000 in
set_option maxRecDepth 100000 in
theorem spec_PeerAt.calls (k : Nat) (A0_0 : Option Addr) (c0_0 : Nat) (l0_0 : List (S68)) (a1 : Int) (r : Int) (w : World) (hr0_0 : Kd.C k68 w A0_0 l0_0.length l0_0) (hc0_0 : l0_0.length ≤ c0_0) (h : spec_PeerAt.f k l0_0 a1 = some r) :
  Calls Tryz.prog 59 #[.agg #[.slice A0_0 l0_0.length c0_0], .int .i64 a1] w fun e w' => e = .returned (.int .i64 r) ∧ Below w.heap.size w w' := by
 have hu35 := Tryz.underlying35
 have HR0_0 := aa_ hr0_0
 have HC0_0 := aa_ hc0_0
 clear hr0_0 hc0_0
 have HB := aa_ (Below.refl w.heap.size w)
 have H : (spec_PeerAt.l0 k a1 0 l0_0) = some r := h
 clear h
 have H' := aa_ H
 clear H
 go_enter Tryz.func59, Tryz.ntmps59
 go_wp2_with (first | ((with_reducible refine gD_ 2 rfl ?_); refine bx_ (N := 2) (cs := #[.slice A0_0 l0_0.length c0_0]) (t := 35) ?_; intro gb149 hg w3 hbox hb; have BK149 := aa_ (hbox); have GW149 := gs_ hg; have GE149 := gs_ hg; replace HB := hbs_ hb; clear hb hbox hg))
 go_loopg [5] k (fun kq v5 w' => ∃ (x5_1 : Int), v5 = .int .i64 x5_1 ∧ Aside0 (spec_PeerAt.l0 kq a1 x5_1 l0_0 = some r) ∧ Aside0 (kq ≤ k) ∧ Aside0 (w'.heap[gb149]? = some (.cells #[(.slice A0_0 l0_0.length c0_0)] 35 (0, 0))) ∧ Aside0 (Below w.heap.size w w'))
 case atStart => exact ⟨(0), rf_, H', ⟨Nat.le_refl _⟩, ⟨bk_ BK149⟩, ⟨bl_⟩⟩
 case round =>
  clear H'
  try clear p2
  obtain ⟨x5_1, rfl, HA, HK1, BK149, HB⟩ := hrel
  cases gk with
  | zero => exact absurd HA.out (by simp [spec_PeerAt.l0])
  | succ k1 =>
   have H := HA.out
   clear HA
   simp only [spec_PeerAt.l0] at H
   by_cases c4 : x5_1 < (l0_0.length : Int)
   ·rw [if_pos c4] at H
    have c4b0 : decide (x5_1 < (l0_0.length : Int)) = true := decide_eq_true c4
    clear c4
    obtain ⟨c5b0, H⟩ := ifd_ H
    obtain ⟨bq6, hbq6⟩ : ∃ b_ : Bool, b_ = ((rd_T68 l0_0 x5_1).f1) := ⟨_, rfl⟩
    replace H : (if bq6 = true then (if ((rd_T68 l0_0 x5_1).f0) = a1 then (some x5_1) else (spec_PeerAt.l0 k1 a1 (wrap64 (x5_1 + 1)) l0_0)) else (spec_PeerAt.l0 k1 a1 (wrap64 (x5_1 + 1)) l0_0)) = some r := by rw [← hbq6] at H; exact H
    have Nbq6 := aa_ hbq6
    clear hbq6
    by_cases c7 : bq6 = true
    ·subst c7
     replace H := ite_t_ H
     have HC8 := aa_ H
     clear H
     have hcz9 := blk_cell BK149.out
     have hfz9 := blk_frozen BK149.out
     have p150 : 0 ≤ (x5_1 : Int) := od_
     have q150 : x5_1 < (l0_0.length : Int) := od_
     obtain ⟨ad150, A150_3, c150_3, A150_4, c150_4, A150_5, c150_5, e150, hx150_0, hx150_1, hx150_2, hx150_3, hx150_4, hx150_5, hl150_3, hi150_3, hl150_4, hi150_4, hl150_5, hi150_5⟩ := at_T68 HR0_0.out x5_1 p150 q150
     (try rw [← Nbq6.out] at hx150_1)
     cases e150
     replace hx150_0 := cb_ HB hx150_0
     replace hx150_1 := cb_ HB hx150_1
     replace hx150_2 := cb_ HB hx150_2
     replace hx150_3 := cb_ HB hx150_3
     replace hx150_4 := cb_ HB hx150_4
     replace hx150_5 := cb_ HB hx150_5
     have HR150_3 := aa_ hi150_3
     have HC150_3 := aa_ hl150_3
     clear hi150_3 hl150_3
     have HR150_4 := aa_ hi150_4
     have HC150_4 := aa_ hl150_4
     clear hi150_4 hl150_4
     have HR150_5 := aa_ hi150_5
     have HC150_5 := aa_ hl150_5
     clear hi150_5 hl150_5
     replace p150 := eq_true p150
     replace q150 := eq_true q150
     have p151 : 0 ≤ (x5_1 : Int) := od_
     have q151 : x5_1 < (l0_0.length : Int) := od_
     obtain ⟨ad151, A151_3, c151_3, A151_4, c151_4, A151_5, c151_5, e151, hx151_0, hx151_1, hx151_2, hx151_3, hx151_4, hx151_5, hl151_3, hi151_3, hl151_4, hi151_4, hl151_5, hi151_5⟩ := at_T68 HR0_0.out x5_1 p151 q151
     (try rw [← Nbq6.out] at hx151_1)
     obtain rfl : ad150 = ad151 := (by injection e151)
     replace hx151_0 := cb_ HB hx151_0
     replace hx151_1 := cb_ HB hx151_1
     replace hx151_2 := cb_ HB hx151_2
     replace hx151_3 := cb_ HB hx151_3
     replace hx151_4 := cb_ HB hx151_4
     replace hx151_5 := cb_ HB hx151_5
     have HR151_3 := aa_ hi151_3
     have HC151_3 := aa_ hl151_3
     clear hi151_3 hl151_3
     have HR151_4 := aa_ hi151_4
     have HC151_4 := aa_ hl151_4
     clear hi151_4 hl151_4
     have HR151_5 := aa_ hi151_5
     have HC151_5 := aa_ hl151_5
     clear hi151_5 hl151_5
     replace p151 := eq_true p151
     replace q151 := eq_true q151
     have ea_ := Option.some.inj (hx150_3.symm.trans hx151_3)
     injection ea_ with ea_ en_ ec_
     subst ea_
     subst ec_
     clear en_
     have ea_ := Option.some.inj (hx150_4.symm.trans hx151_4)
     injection ea_ with ea_ en_ ec_
     subst ea_
     subst ec_
     clear en_
     have ea_ := Option.some.inj (hx150_5.symm.trans hx151_5)
     injection ea_ with ea_ en_ ec_
     subst ea_
     subst ec_
     clear en_
     go_upto_if 28 with (fail)
     have H := HC8.out
     clear HC8
     by_cases c10 : ((rd_T68 l0_0 x5_1).f0) = a1
     ·rw [if_pos c10] at H
      have c10b0 : (((rd_T68 l0_0 x5_1).f0) == a1) = true := beq_iff_eq.mpr c10
      have c10b1 : (((rd_T68 l0_0 x5_1).f0) != a1) = false := bne_eq_false_iff_eq.mpr c10
      clear c10
      (first | rw [c10b0] | (simp only [i64_w, i32_w]; rw [c10b0]) | skip)
      obtain rfl := Option.some.inj H
      go_wp2
      go_ret
      exact ⟨eq_, bl_⟩
     ·rw [if_neg c10] at H
      have c10b0 : (((rd_T68 l0_0 x5_1).f0) == a1) = false := beq_eq_false_iff_ne.mpr c10
      have c10b1 : (((rd_T68 l0_0 x5_1).f0) != a1) = true := bne_iff_ne.mpr c10
      (first | rw [c10b0] | (simp only [i64_w, i32_w]; rw [c10b0]) | skip)
      have H' := aa_ H
      clear H
      go_wp2
      go_roundg k1
      case measure => have := HK1.out; omega
      case rel => exact ⟨(wrap64 (x5_1 + 1)), rf_, H', ⟨by have := HK1.out; omega⟩, ⟨bk_ BK149⟩, ⟨bl_⟩⟩
    ·replace c7 := Bool.eq_false_iff.mpr c7
     subst c7
     replace H := ite_f_ H
     have H' := aa_ H
     clear H
     have hcz11 := blk_cell BK149.out
     have hfz11 := blk_frozen BK149.out
     have p150 : 0 ≤ (x5_1 : Int) := od_
     have q150 : x5_1 < (l0_0.length : Int) := od_
     obtain ⟨ad150, A150_3, c150_3, A150_4, c150_4, A150_5, c150_5, e150, hx150_0, hx150_1, hx150_2, hx150_3, hx150_4, hx150_5, hl150_3, hi150_3, hl150_4, hi150_4, hl150_5, hi150_5⟩ := at_T68 HR0_0.out x5_1 p150 q150
     (try rw [← Nbq6.out] at hx150_1)
     cases e150
     replace hx150_0 := cb_ HB hx150_0
     replace hx150_1 := cb_ HB hx150_1
     replace hx150_2 := cb_ HB hx150_2
     replace hx150_3 := cb_ HB hx150_3
     replace hx150_4 := cb_ HB hx150_4
     replace hx150_5 := cb_ HB hx150_5
     have HR150_3 := aa_ hi150_3
     have HC150_3 := aa_ hl150_3
     clear hi150_3 hl150_3
     have HR150_4 := aa_ hi150_4
     have HC150_4 := aa_ hl150_4
     clear hi150_4 hl150_4
     have HR150_5 := aa_ hi150_5
     have HC150_5 := aa_ hl150_5
     clear hi150_5 hl150_5
     replace p150 := eq_true p150
     replace q150 := eq_true q150
     go_wp2
     go_roundg k1
     case measure => have := HK1.out; omega
     case rel => exact ⟨(wrap64 (x5_1 + 1)), rf_, H', ⟨by have := HK1.out; omega⟩, ⟨bk_ BK149⟩, ⟨bl_⟩⟩
   ·rw [if_neg c4] at H
    have c4b0 : decide (x5_1 < (l0_0.length : Int)) = false := decide_eq_false c4
    clear c4
    obtain rfl := Option.some.inj H
    have hcz12 := blk_cell BK149.out
    have hfz12 := blk_frozen BK149.out
    go_wp2
    go_ret
    exact ⟨eq_, bl_⟩
mutual
def spec_NextOf.l0 : Nat → Int → Int → List (S68) → Option (Int)
 | 0, _, _, _ => none
 | k + 1, x5, x6, x153000 => if x5 ≥ 0 then (if 0 ≤ x5 then (if x5 < (x153000.length : Int) then (spec_NextOf.j1 k x5 x6 (decide (x6 < (((rd_T68 x153000 x5).f3).length : Int))) x153000) else (none)) else (none)) else (spec_NextOf.j1 k x5 x6 false x153000)
def spec_NextOf.j1 : Nat → Int → Int → Bool → List (S68) → Option (Int)
 | 0, _, _, _, _ => none
 | k + 1, x5, x6, x22, x153000 => if x22 = true then (if 0 ≤ x5 then (if x5 < (x153000.length : Int) then (if 0 ≤ x6 then (if x6 < (((rd_T68 x153000 x5).f3).length : Int) then ((spec_PeerAt.f k x153000 (rd ((rd_T68 x153000 x5).f3) x6)).bind fun t157 => (if t157 ≥ 0 then (some (rd ((rd_T68 x153000 x5).f3) x6)) else (spec_NextOf.l0 k x5 (wrap64 (x6 + 1)) x153000))) else (none)) else (none)) else (none)) else (none)) else (some (-1))
end
def spec_NextOf.f (k : Nat) (l0_0 : List (S68)) (a1 : Int) : Option (Int) := (spec_PeerAt.f k l0_0 a1).bind fun t153 => (spec_NextOf.l0 k t153 0 l0_0)
def spec_NextOf.T5 : Bool × List (List Nat × List Nat) := (true, [([], []), ([], []), ([1], [1]), ([], []), ([2, 3], [2, 3]), ([4], [4]), ([5], [5]), ([], []), ([6, 7], [6, 7]), ([8], [8]), ([0, 9], [0, 9]), ([10], [10])])
def spec_NextOf.B5 : List Nat := [0, 0, 2, 0, 14, 30, 62, 0, 254, 510, 1023, 2047]
theorem spec_NextOf.tab5 : rtab .any (opsOf Tryz.f32 5) = spec_NextOf.T5 := by kernel_rfl
theorem spec_NextOf.bits5 : waitsOk spec_NextOf.T5.2 spec_NextOf.B5 = true := by kernel_rfl
set_option maxHeartbeats 8000000 in
set_option maxRecDepth 100000 in
theorem spec_NextOf.calls (k : Nat) (A0_0 : Option Addr) (c0_0 : Nat) (l0_0 : List (S68)) (a1 : Int) (r : Int) (w : World) (hr0_0 : Kd.C k68 w A0_0 l0_0.length l0_0) (hc0_0 : l0_0.length ≤ c0_0) (h : spec_NextOf.f k l0_0 a1 = some r) :
  Calls Tryz.prog 32 #[.agg #[.slice A0_0 l0_0.length c0_0], .int .i64 a1] w fun e w' => e = .returned (.int .i64 r) ∧ Below w.heap.size w w' := by
 have hu35 := Tryz.underlying35
 have HR0_0 := aa_ hr0_0
 have HC0_0 := aa_ hc0_0
 clear hr0_0 hc0_0
 have HB := aa_ (Below.refl w.heap.size w)
 have H : ((spec_PeerAt.f k l0_0 a1).bind fun t153 => (spec_NextOf.l0 k t153 0 l0_0)) = some r := h
 clear h
 obtain ⟨t153, A3, H⟩ := bindE_ H
 have H' := aa_ H
 clear H
 go_enter Tryz.func32, Tryz.ntmps32
 go_wp2_with (first | ((with_reducible refine gD_ 2 rfl ?_); (try (refine gate_guard (by rfl) ?_; dsimp only)); refine bx_ (N := 2) (cs := #[.slice A0_0 l0_0.length c0_0]) (t := 35) ?_; intro gb152 hg w4 hbox hb; have BK152 := aa_ (hbox); have GW152 := gs_ hg; have GE152 := gs_ hg; replace HB := hbs_ hb; clear hb hbox hg; obtain ⟨hcz5, hfz5⟩ := bcf_ BK152) | ((with_reducible refine gC_ 59 rfl ?_); refine goesC_ (some 9) Tryz.func59 #[.agg #[.slice A0_0 l0_0.length c0_0], .int .i64 a1] ?_; (with_reducible refine (spec_PeerAt.calls k _ _ l0_0 a1 t153 _ ?side1 ?side2 A3.out).mono ?_); (case side1 => repeat (first | exact (Kd.C_below HR0_0.out HB.out) | (with_reducible refine Kd.C_alloc ?_ _) | (with_reducible refine Kd.C_drewN ?_ _) | (with_reducible refine Kd.C_drew ?_))); (case side2 => exact HC0_0.out); rintro e w6 ⟨rfl, hb⟩; refine ⟨_, rfl, ?_⟩; replace BK152 := bkb_ BK152 hb; replace HB := hbs_ hb; clear hb))
 go_loopg [6] k (fun kq v6 w' => ∃ (x6_1 : Int), v6 = .int .i64 x6_1 ∧ Aside0 (spec_NextOf.l0 kq t153 x6_1 l0_0 = some r) ∧ Aside0 (kq ≤ k) ∧ Aside0 (w'.heap[gb152]? = some (.cells #[(.slice A0_0 l0_0.length c0_0)] 35 (0, 0))) ∧ Aside0 (Below w.heap.size w w'))
 case atStart => exact ⟨(0), rf_, H', ⟨Nat.le_refl _⟩, ⟨bk_ BK152⟩, ⟨bl_⟩⟩
 case round =>
  clear H'
  try clear p2
  try clear hcz5
  try clear hfz5
  obtain ⟨x6_1, rfl, HA, HK1, BK152, HB⟩ := hrel
  cases gk with
  | zero => exact absurd HA.out (by simp [spec_NextOf.l0])
  | succ k1 =>
   have H := HA.out
   clear HA
   simp only [spec_NextOf.l0] at H
   have HC7 := aa_ H
   clear H
   go_upto_region 3 with (fail)
   go_cut [22] (fun v22 wc => ∃ (kq : Nat) (x22_6 : Bool), v22 = .bool x22_6 ∧ Aside0 (spec_NextOf.j1 kq t153 x6_1 x22_6 l0_0 = some r) ∧ Aside0 (kq ≤ k1) ∧ Aside0 (wc.heap[gb152]? = some (.cells #[(.slice A0_0 l0_0.length c0_0)] 35 (0, 0))) ∧ Aside0 (Below w.heap.size w wc))
   case first =>
    have H := HC7.out
    clear HC7
    by_cases c8 : t153 ≥ 0
    ·rw [if_pos c8] at H
     have c8b0 : decide (0 ≤ t153) = true := decide_eq_true c8
     clear c8
     (first | rw [c8b0] | (simp only [i64_w, i32_w]; rw [c8b0]) | skip)
     obtain ⟨c9b0, H⟩ := ifd_ H
     obtain ⟨c10b0, H⟩ := ifd_ H
     have H' := aa_ H
     clear H
     have hcz11 := blk_cell BK152.out
     have hfz11 := blk_frozen BK152.out
     have p154 : 0 ≤ (t153 : Int) := od_
     have q154 : t153 < (l0_0.length : Int) := od_
     obtain ⟨ad154, A154_3, c154_3, A154_4, c154_4, A154_5, c154_5, e154, hx154_0, hx154_1, hx154_2, hx154_3, hx154_4, hx154_5, hl154_3, hi154_3, hl154_4, hi154_4, hl154_5, hi154_5⟩ := at_T68 HR0_0.out t153 p154 q154
     cases e154
     replace hx154_0 := cb_ HB hx154_0
     replace hx154_1 := cb_ HB hx154_1
     replace hx154_2 := cb_ HB hx154_2
     replace hx154_3 := cb_ HB hx154_3
     replace hx154_4 := cb_ HB hx154_4
     replace hx154_5 := cb_ HB hx154_5
     have HR154_3 := aa_ hi154_3
     have HC154_3 := aa_ hl154_3
     clear hi154_3 hl154_3
     have HR154_4 := aa_ hi154_4
     have HC154_4 := aa_ hl154_4
     clear hi154_4 hl154_4
     have HR154_5 := aa_ hi154_5
     have HC154_5 := aa_ hl154_5
     clear hi154_5 hl154_5
     replace p154 := eq_true p154
     replace q154 := eq_true q154
     go_wp2
     go_meet
     case rel => exact ⟨_, (decide (x6_1 < (((rd_T68 l0_0 t153).f3).length : Int))), rf_, H', ⟨by have := HK1.out; first | omega | exact Nat.le_refl _⟩, ⟨bk_ BK152⟩, ⟨bl_⟩⟩
    ·rw [if_neg c8] at H
     have c8b0 : decide (0 ≤ t153) = false := decide_eq_false c8
     clear c8
     (first | rw [c8b0] | (simp only [i64_w, i32_w]; rw [c8b0]) | skip)
     have H' := aa_ H
     clear H
     go_wp2
     go_meet
     case rel => exact ⟨_, (false), rf_, H', ⟨by have := HK1.out; first | omega | exact Nat.le_refl _⟩, ⟨bk_ BK152⟩, ⟨bl_⟩⟩
   case rest =>
    clear HC7
    try clear p1
    try clear q1
    try clear hx1
    try clear p2
    try clear c8b0
    try clear c9b0
    try clear c10b0
    try clear hcz11
    try clear hcz5
    try clear hfz11
    try clear hfz5
    try clear hx154_0
    try clear hx154_1
    try clear hx154_2
    try clear hx154_3
    try clear hx154_4
    try clear hx154_5
    try clear p154
    try clear p2
    try clear q154
    obtain ⟨kq, x22_6, rfl, HA, HJ6, BK152, HB⟩ := hcut
    cases kq with
    | zero => exact absurd HA.out (by simp [spec_NextOf.j1])
    | succ kj6 =>
     have H := HA.out
     clear HA
     simp only [spec_NextOf.j1] at H
     by_cases c12 : x22_6 = true
     ·subst c12
      replace H := ite_t_ H
      obtain ⟨c13b0, H⟩ := ifd_ H
      obtain ⟨c14b0, H⟩ := ifd_ H
      obtain ⟨c15b0, H⟩ := ifd_ H
      obtain ⟨c16b0, H⟩ := ifd_ H
      obtain ⟨t157, A17, H⟩ := bindE_ H
      have HC18 := aa_ H
      clear H
      try go_wp2
      replace BK152 := aa_ (blk_drew BK152.out)
      replace HB := aa_ (below_drew1 HB.out)
      have p155 : 0 ≤ (t153 : Int) := od_
      have q155 : t153 < (l0_0.length : Int) := od_
      obtain ⟨ad155, A155_3, c155_3, A155_4, c155_4, A155_5, c155_5, e155, hx155_0, hx155_1, hx155_2, hx155_3, hx155_4, hx155_5, hl155_3, hi155_3, hl155_4, hi155_4, hl155_5, hi155_5⟩ := at_T68 HR0_0.out t153 p155 q155
      have hw155_5 := hx155_5
      have hw155_4 := hx155_4
      have hw155_3 := hx155_3
      have hw155_2 := hx155_2
      have hw155_1 := hx155_1
      have hw155_0 := hx155_0
      cases e155
      replace hx155_0 := cb_ HB hx155_0
      replace hx155_1 := cb_ HB hx155_1
      replace hx155_2 := cb_ HB hx155_2
      replace hx155_3 := cb_ HB hx155_3
      replace hx155_4 := cb_ HB hx155_4
      replace hx155_5 := cb_ HB hx155_5
      have HR155_3 := aa_ hi155_3
      have HC155_3 := aa_ hl155_3
      clear hi155_3 hl155_3
      have HR155_4 := aa_ hi155_4
      have HC155_4 := aa_ hl155_4
      clear hi155_4 hl155_4
      have HR155_5 := aa_ hi155_5
      have HC155_5 := aa_ hl155_5
      clear hi155_5 hl155_5
      replace p155 := eq_true p155
      replace q155 := eq_true q155
      have p156 : 0 ≤ (x6_1 : Int) := od_
      have q156 : x6_1 < (((rd_T68 l0_0 t153).f3).length : Int) := od_
      obtain ⟨ad156, e156, hx156_0⟩ := Kd.at_int HR155_3.out x6_1 p156 q156
      have hw156_0 := hx156_0
      cases e156
      replace hx156_0 := cb_ HB hx156_0
      replace p156 := eq_true p156
      replace q156 := eq_true q156
      refine start_ (n := 12) (S := fun w' => w'.cell? ⟨gb152, 0, none⟩ = some (.slice (some ad155) l0_0.length c0_0) ∧ w'.cell? (ad155.add ((t153).toNat * 6)) = some (.int .i64 ((rd_T68 l0_0 t153).f0)) ∧ w'.cell? ⟨(ad155.add ((t153).toNat * 6)).block, (ad155.add ((t153).toNat * 6)).off + 1, none⟩ = some (.bool ((rd_T68 l0_0 t153).f1)) ∧ w'.cell? ⟨(ad155.add ((t153).toNat * 6)).block, (ad155.add ((t153).toNat * 6)).off + 2, none⟩ = some (.int .i64 ((rd_T68 l0_0 t153).f2)) ∧ w'.cell? ⟨(ad155.add ((t153).toNat * 6)).block, (ad155.add ((t153).toNat * 6)).off + 3, none⟩ = some (.slice (some ad156) ((rd_T68 l0_0 t153).f3).length c155_3) ∧ w'.cell? ⟨(ad155.add ((t153).toNat * 6)).block, (ad155.add ((t153).toNat * 6)).off + 4, none⟩ = some (.slice A155_4 ((rd_T68 l0_0 t153).f4).length c155_4) ∧ w'.cell? ⟨(ad155.add ((t153).toNat * 6)).block, (ad155.add ((t153).toNat * 6)).off + 5, none⟩ = some (.slice A155_5 ((rd_T68 l0_0 t153).f5).length c155_5) ∧ w'.cell? (ad156.add (x6_1).toNat) = some (.int .i64 (rd ((rd_T68 l0_0 t153).f3) x6_1))) (ds := []) (ba_ 12 0) (by kernel_rfl) rfl rfl ⟨(blk_cell BK152.out 0).trans rfl, (cb_ HB hw155_0 :), (cb_ HB hw155_1 :), (cb_ HB hw155_2 :), (cb_ HB hw155_3 :), (cb_ HB hw155_4 :), (cb_ HB hw155_5 :), (cb_ HB hw156_0 :)⟩ (fun hHeld => ?_); refine with_tabW spec_NextOf.tab5 spec_NextOf.bits5 (fun HT_ HW_ => ?_)
      generalize wc.drew = w19 at BK152 HB HR155_3 HR155_4 HR155_5 hx155_0 hx155_1 hx155_2 hx155_3 hx155_4 hx155_5 hx156_0 hHeld ⊢
      refine pz_ 1 26 (ba_ 12 2) (ao_ HT_) ?_
      refine pz_ 3 28 (ba_ 12 10) (ao_ HT_) ?_
      refine pz_ 7 32 (ba_ 12 138) (ao_ HT_) ?_
      refine tz_ 0 25 (ba_ 12 139) (take_ofW HT_.out HW_.out (by kernel_rfl)) hHeld ?_
      refine tz_ 2 27 (ba_ 12 143) (take_ofW HT_.out HW_.out (by kernel_rfl)) hHeld ?_
      refine pz_ 4 29 (ba_ 12 159) (ao_ HT_) ?_
      refine pz_ 5 30 (ba_ 12 191) (ao_ HT_) ?_
      refine tz_ 6 31 (ba_ 12 255) (take_ofW HT_.out HW_.out (by kernel_rfl)) hHeld ?_
      refine pz_ 8 33 (ba_ 12 511) (ao_ HT_) ?_
      refine tz_ 9 34 (ba_ 12 1023) (take_ofW HT_.out HW_.out (by kernel_rfl)) hHeld ?_
      refine one_ (i := 10) (N := some 35) (ba_ 12 2047) rfl rfl (one_of HT_.out (by kernel_rfl)) (by decide) (fun K hK => ?_)
      refine goes_ Tryz.func59 (by kernel_rfl) rfl #[.agg #[.slice (some ad155) l0_0.length c0_0], .int .i64 (rd ((rd_T68 l0_0 t153).f3) x6_1)] (by rfl) rfl rfl (by (try simp only [List.map_toArray, List.map_cons, List.map_nil]); first | done | rfl | (simp only [List.length_drop, List.length_take]; rfl)) ?_
      with_reducible refine (spec_PeerAt.calls kj6 _ _ l0_0 (rd ((rd_T68 l0_0 t153).f3) x6_1) t157 _ ?side1 ?side2 A17.out).mono ?_
      (case side1 => repeat (first | exact (Kd.C_below HR0_0.out HB.out) | (with_reducible refine Kd.C_alloc ?_ _) | (with_reducible refine Kd.C_drewN ?_ _) | (with_reducible refine Kd.C_drew ?_)))
      (case side2 => exact HC0_0.out)
      rintro e w20 ⟨rfl, hb⟩
      refine ⟨_, rfl, ?_⟩
      replace BK152 := bkb_ BK152 hb
      replace HB := hbs_ hb
      (try clear hb)
      (try clear hb2)
      (try clear hk)
      (try clear hi)
      refine hK.out _ _ ⟨(blk_cell BK152.out 0).trans rfl, (cb_ HB hw155_0 :), (cb_ HB hw155_1 :), (cb_ HB hw155_2 :), (cb_ HB hw155_3 :), (cb_ HB hw155_4 :), (cb_ HB hw155_5 :), (cb_ HB hw156_0 :)⟩ (fun hHeld => ?_)
      clear hK K
      refine norm_ (a' := ?_) ?_ ?_
      rotate_left
      ·show Act.put _ (some 35) _ = _
       simp only [Act.put, sb_, sz_, ss_, i64_w, i32_w]
       rfl
      refine pz_ 11 36 (ba_ 12 4095) (ao_ HT_) ?_
      refine done_ (done_of HT_.out (by kernel_rfl)) ?_
      go_upto_if 36 with (fail)
      have H := HC18.out
      clear HC18
      by_cases c21 : t157 ≥ 0
      ·rw [if_pos c21] at H
       have c21b0 : decide (0 ≤ t157) = true := decide_eq_true c21
       clear c21
       (first | rw [c21b0] | (simp only [i64_w, i32_w]; rw [c21b0]) | skip)
       obtain rfl := Option.some.inj H
       have hcz22 := blk_cell BK152.out
       have hfz22 := blk_frozen BK152.out
       have p158 : 0 ≤ (t153 : Int) := od_
       have q158 : t153 < (l0_0.length : Int) := od_
       obtain ⟨ad158, A158_3, c158_3, A158_4, c158_4, A158_5, c158_5, e158, hx158_0, hx158_1, hx158_2, hx158_3, hx158_4, hx158_5, hl158_3, hi158_3, hl158_4, hi158_4, hl158_5, hi158_5⟩ := at_T68 HR0_0.out t153 p158 q158
       obtain rfl : ad155 = ad158 := (by injection e158)
       replace hx158_0 := cb_ HB hx158_0
       replace hx158_1 := cb_ HB hx158_1
       replace hx158_2 := cb_ HB hx158_2
       replace hx158_3 := cb_ HB hx158_3
       replace hx158_4 := cb_ HB hx158_4
       replace hx158_5 := cb_ HB hx158_5
       have HR158_3 := aa_ hi158_3
       have HC158_3 := aa_ hl158_3
       clear hi158_3 hl158_3
       have HR158_4 := aa_ hi158_4
       have HC158_4 := aa_ hl158_4
       clear hi158_4 hl158_4
       have HR158_5 := aa_ hi158_5
       have HC158_5 := aa_ hl158_5
       clear hi158_5 hl158_5
       replace p158 := eq_true p158
       replace q158 := eq_true q158
       have p159 : 0 ≤ (x6_1 : Int) := od_
       have q159 : x6_1 < (((rd_T68 l0_0 t153).f3).length : Int) := od_
       obtain ⟨ad159, e159, hx159_0⟩ := Kd.at_int (Kd.C_below HR158_3.out HB.out) x6_1 p159 q159
       cases e159
       replace p159 := eq_true p159
       replace q159 := eq_true q159
       go_wp2
       go_ret
       exact ⟨eq_, bl_⟩
      ·rw [if_neg c21] at H
       have c21b0 : decide (0 ≤ t157) = false := decide_eq_false c21
       clear c21
       (first | rw [c21b0] | (simp only [i64_w, i32_w]; rw [c21b0]) | skip)
       have H' := aa_ H
       clear H
       go_wp2
       go_roundg kj6
       case measure => have := HK1.out; have := HJ6.out; omega
       case rel => exact ⟨(wrap64 (x6_1 + 1)), rf_, H', ⟨by have := HK1.out; have := HJ6.out; omega⟩, ⟨bk_ BK152⟩, ⟨bl_⟩⟩
     ·replace c12 := Bool.eq_false_iff.mpr c12
      subst c12
      replace H := ite_f_ H
      obtain rfl := Option.some.inj H
      go_wp2
      go_ret
      exact ⟨eq_, bl_⟩
mutual
def spec_RingOk.l0 : Nat → Int → List (S68) → Option (Bool)
 | 0, _, _ => none
 | k + 1, x3, x161000 => if x3 < (x161000.length : Int) then (if 0 ≤ x3 then ((spec_PeerOk.f k ((rd_T68 x161000 x3).f0) ((rd_T68 x161000 x3).f1) ((rd_T68 x161000 x3).f2) ((rd_T68 x161000 x3).f3) ((rd_T68 x161000 x3).f4) ((rd_T68 x161000 x3).f5)).bind fun t164 => (if t164 = true then (if x3 < 4 then (if ((rd_T68 x161000 x3).f1 = true) then (if (rd_T68 x161000 x3).f1 = true then ((spec_NextOf.f k x161000 ((rd_T68 x161000 x3).f0)).bind fun t165 => (spec_RingOk.j1 k x3 (decide (t165 < 0)) x161000 ((rd_T68 x161000 x3).f0) ((rd_T68 x161000 x3).f1) ((rd_T68 x161000 x3).f2) ((rd_T68 x161000 x3).f3) ((rd_T68 x161000 x3).f4) ((rd_T68 x161000 x3).f5))) else (spec_RingOk.j1 k x3 false x161000 ((rd_T68 x161000 x3).f0) ((rd_T68 x161000 x3).f1) ((rd_T68 x161000 x3).f2) ((rd_T68 x161000 x3).f3) ((rd_T68 x161000 x3).f4) ((rd_T68 x161000 x3).f5))) else (spec_RingOk.j1 k x3 true x161000 ((rd_T68 x161000 x3).f0) ((rd_T68 x161000 x3).f1) ((rd_T68 x161000 x3).f2) ((rd_T68 x161000 x3).f3) ((rd_T68 x161000 x3).f4) ((rd_T68 x161000 x3).f5))) else (if (rd_T68 x161000 x3).f1 = true then ((spec_NextOf.f k x161000 ((rd_T68 x161000 x3).f0)).bind fun t166 => (spec_RingOk.j1 k x3 (decide (t166 < 0)) x161000 ((rd_T68 x161000 x3).f0) ((rd_T68 x161000 x3).f1) ((rd_T68 x161000 x3).f2) ((rd_T68 x161000 x3).f3) ((rd_T68 x161000 x3).f4) ((rd_T68 x161000 x3).f5))) else (spec_RingOk.j1 k x3 false x161000 ((rd_T68 x161000 x3).f0) ((rd_T68 x161000 x3).f1) ((rd_T68 x161000 x3).f2) ((rd_T68 x161000 x3).f3) ((rd_T68 x161000 x3).f4) ((rd_T68 x161000 x3).f5)))) else (spec_RingOk.j1 k x3 true x161000 ((rd_T68 x161000 x3).f0) ((rd_T68 x161000 x3).f1) ((rd_T68 x161000 x3).f2) ((rd_T68 x161000 x3).f3) ((rd_T68 x161000 x3).f4) ((rd_T68 x161000 x3).f5)))) else (none)) else (some true)
def spec_RingOk.j1 : Nat → Int → Bool → List (S68) → Int → Bool → Int → List Int → List Int → List (S108) → Option (Bool)
 | 0, _, _, _, _, _, _, _, _, _ => none
 | k + 1, x3, x45, x161000, x164000, x164001, x164002, x164003, x164004, x164005 => if x45 = true then (some false) else (spec_RingOk.l1 k x3 0 x161000 x164000 x164001 x164002 x164003 x164004 x164005)
def spec_RingOk.l1 : Nat → Int → Int → List (S68) → Int → Bool → Int → List Int → List Int → List (S108) → Option (Bool)
 | 0, _, _, _, _, _, _, _, _, _ => none
 | k + 1, x3, x5, x161000, x164000, x164001, x164002, x164003, x164004, x164005 => if x5 < x3 then (if 0 ≤ x5 then (if x5 < (x161000.length : Int) then (if ((rd_T68 x161000 x5).f0) = x164000 then (some false) else (spec_RingOk.l1 k x3 (wrap64 (x5 + 1)) x161000 x164000 x164001 x164002 x164003 x164004 x164005)) else (none)) else (none)) else (spec_RingOk.l0 k (wrap64 (x3 + 1)) x161000)
end
def spec_RingOk.f (k : Nat) (l0_0 : List (S68)) : Option (Bool) := (spec_l01In.f (l0_0.length : Int) 4 8).bind fun t161 => (if t161 = true then (spec_RingOk.l0 k 0 l0_0) else (some false))
set_option maxHeartbeats 8000000 in
set_option maxRecDepth 100000 in
theorem spec_RingOk.calls (k : Nat) (A0_0 : Option Addr) (c0_0 : Nat) (l0_0 : List (S68)) (r : Bool) (w : World) (hr0_0 : Kd.C k68 w A0_0 l0_0.length l0_0) (hc0_0 : l0_0.length ≤ c0_0) (h : spec_RingOk.f k l0_0 = some r) :
  Calls Tryz.prog 14 #[.agg #[.slice A0_0 l0_0.length c0_0]] w fun e w' => e = .returned (.bool r) ∧ Below w.heap.size w w' := by
 have hu35 := Tryz.underlying35
 have hu68 := Tryz.underlying68
 have HR0_0 := aa_ hr0_0
 have HC0_0 := aa_ hc0_0
 clear hr0_0 hc0_0
 have HB := aa_ (Below.refl w.heap.size w)
 have H : ((spec_l01In.f (l0_0.length : Int) 4 8).bind fun t161 => (if t161 = true then (spec_RingOk.l0 k 0 l0_0) else (some false))) = some r := h
 clear h
 obtain ⟨t161, A2, H⟩ := bindE_ H
 have HC3 := aa_ H
 clear H
 go_enter Tryz.func14, Tryz.ntmps14
 go_upto_if 10 with (first | ((with_reducible refine gD_ 1 rfl ?_); refine bx_ (N := 1) (cs := #[.slice A0_0 l0_0.length c0_0]) (t := 35) ?_; intro gb160 hg w4 hbox hb; have BK160 := aa_ (hbox); have GW160 := gs_ hg; have GE160 := gs_ hg; replace HB := hbs_ hb; clear hb hbox hg; obtain ⟨hcz5, hfz5⟩ := bcf_ BK160) | (go_at_call 30; (with_reducible refine (spec_l01In.calls (l0_0.length : Int) 4 8 t161 _ A2.out).mono ?_); rintro e w' ⟨rfl, ⟨nd, rfl⟩⟩; (try first | exact ⟨rfl, _, World.drewN_drewN _ _ _⟩ | exact ⟨rfl, _, Eq.trans (World.drewN_drewN _ _ _) (congrArg (World.drewN _) (Nat.add_assoc _ _ _))⟩)))
 repeat (go_quiet (first | ((with_reducible refine gD_ 1 rfl ?_); refine bx_ (N := 1) (cs := #[.slice A0_0 l0_0.length c0_0]) (t := 35) ?_; intro gb160 hg w4 hbox hb; have BK160 := aa_ (hbox); have GW160 := gs_ hg; have GE160 := gs_ hg; replace HB := hbs_ hb; clear hb hbox hg; obtain ⟨hcz5, hfz5⟩ := bcf_ BK160) | (go_at_call 30; (with_reducible refine (spec_l01In.calls (l0_0.length : Int) 4 8 t161 _ A2.out).mono ?_); rintro e w' ⟨rfl, ⟨nd, rfl⟩⟩; (try first | exact ⟨rfl, _, World.drewN_drewN _ _ _⟩ | exact ⟨rfl, _, Eq.trans (World.drewN_drewN _ _ _) (congrArg (World.drewN _) (Nat.add_assoc _ _ _))⟩))); go_upto_if 10 with (first | ((with_reducible refine gD_ 1 rfl ?_); refine bx_ (N := 1) (cs := #[.slice A0_0 l0_0.length c0_0]) (t := 35) ?_; intro gb160 hg w4 hbox hb; have BK160 := aa_ (hbox); have GW160 := gs_ hg; have GE160 := gs_ hg; replace HB := hbs_ hb; clear hb hbox hg; obtain ⟨hcz5, hfz5⟩ := bcf_ BK160) | (go_at_call 30; (with_reducible refine (spec_l01In.calls (l0_0.length : Int) 4 8 t161 _ A2.out).mono ?_); rintro e w' ⟨rfl, ⟨nd, rfl⟩⟩; (try first | exact ⟨rfl, _, World.drewN_drewN _ _ _⟩ | exact ⟨rfl, _, Eq.trans (World.drewN_drewN _ _ _) (congrArg (World.drewN _) (Nat.add_assoc _ _ _))⟩))))
 (try simp only [Act.put, sb_, sz_, ss_])
 have H := HC3.out
 clear HC3
 by_cases c6 : t161 = true
 ·subst c6
  replace H := ite_t_ H
  have H' := aa_ H
  clear H
  go_wp2
  repeat (go_quiet (fail); try go_wp2)
  go_loopg [3] k (fun kq v3 w' => ∃ (x3_1 : Int), v3 = .int .i64 x3_1 ∧ Aside0 (spec_RingOk.l0 kq x3_1 l0_0 = some r) ∧ Aside0 (kq ≤ k) ∧ Aside0 (w'.heap[gb160]? = some (.cells #[(.slice A0_0 l0_0.length c0_0)] 35 (0, 0))) ∧ Aside0 (Below w.heap.size w w'))
  case atStart => exact ⟨(0), rf_, H', ⟨Nat.le_refl _⟩, ⟨bk_ BK160⟩, ⟨bl_⟩⟩
  case round =>
   clear H'
   try clear p2
   try clear hcz5
   try clear hfz5
   obtain ⟨x3_1, rfl, HA, HK1, BK160, HB⟩ := hrel
   cases gk with
   | zero => exact absurd HA.out (by simp [spec_RingOk.l0])
   | succ k1 =>
    have H := HA.out
    clear HA
    simp only [spec_RingOk.l0] at H
    by_cases c7 : x3_1 < (l0_0.length : Int)
    ·rw [if_pos c7] at H
     have c7b0 : decide (x3_1 < (l0_0.length : Int)) = true := decide_eq_true c7
     clear c7
     (first | rw [c7b0] | (simp only [i64_w, i32_w]; rw [c7b0]) | (have cz_ := c7b0; simp only [Int.ofNat_lt, Int.ofNat_le, gt_iff_lt, ge_iff_le] at cz_; rw [cz_]; clear cz_) | skip)
     obtain ⟨c8b0, H⟩ := ifd_ H
     have HC9 := aa_ H
     clear H
     have hcz10 := blk_cell BK160.out
     have hfz10 := blk_frozen BK160.out
     have p162 : 0 ≤ (x3_1 : Int) := od_
     have q162 : x3_1 < (l0_0.length : Int) := od_
     obtain ⟨ad162, A162_3, c162_3, A162_4, c162_4, A162_5, c162_5, e162, hx162_0, hx162_1, hx162_2, hx162_3, hx162_4, hx162_5, hl162_3, hi162_3, hl162_4, hi162_4, hl162_5, hi162_5⟩ := at_T68 HR0_0.out x3_1 p162 q162
     cases e162
     replace hx162_0 := cb_ HB hx162_0
     replace hx162_1 := cb_ HB hx162_1
     replace hx162_2 := cb_ HB hx162_2
     replace hx162_3 := cb_ HB hx162_3
     replace hx162_4 := cb_ HB hx162_4
     replace hx162_5 := cb_ HB hx162_5
     have HR162_3 := aa_ hi162_3
     have HC162_3 := aa_ hl162_3
     clear hi162_3 hl162_3
     have HR162_4 := aa_ hi162_4
     have HC162_4 := aa_ hl162_4
     clear hi162_4 hl162_4
     have HR162_5 := aa_ hi162_5
     have HC162_5 := aa_ hl162_5
     clear hi162_5 hl162_5
     replace p162 := eq_true p162
     replace q162 := eq_true q162
     go_upto_region 7 with (first | ((with_reducible refine gD_ 4 rfl ?_); refine bx_ (N := 4) (cs := #[.int .i64 0, .bool false, .int .i64 0, .slice none 0 0, .slice none 0 0, .slice none 0 0]) (t := 68) ?_; intro gb163 hg w11 hbox hb; have BK163 := aa_ (hbox); have GW163 := gs_ hg; have GE163 := gs_ hg; replace HB := hbs_ hb; have NB160_163 := nl_ hg BK160; have NB163_160 := nr_ hg BK160; replace BK160 := bkb_ BK160 hb; clear hb hbox hg; have hnb12 := NB163_160.out; have hnc12 := NB160_163.out; obtain ⟨hcz13, hfz13⟩ := bcf_ BK163))
     repeat (go_quiet (first | ((with_reducible refine gD_ 4 rfl ?_); refine bx_ (N := 4) (cs := #[.int .i64 0, .bool false, .int .i64 0, .slice none 0 0, .slice none 0 0, .slice none 0 0]) (t := 68) ?_; intro gb163 hg w11 hbox hb; have BK163 := aa_ (hbox); have GW163 := gs_ hg; have GE163 := gs_ hg; replace HB := hbs_ hb; have NB160_163 := nl_ hg BK160; have NB163_160 := nr_ hg BK160; replace BK160 := bkb_ BK160 hb; clear hb hbox hg; have hnb12 := NB163_160.out; have hnc12 := NB160_163.out; obtain ⟨hcz13, hfz13⟩ := bcf_ BK163)); go_upto_region 7 with (first | ((with_reducible refine gD_ 4 rfl ?_); refine bx_ (N := 4) (cs := #[.int .i64 0, .bool false, .int .i64 0, .slice none 0 0, .slice none 0 0, .slice none 0 0]) (t := 68) ?_; intro gb163 hg w11 hbox hb; have BK163 := aa_ (hbox); have GW163 := gs_ hg; have GE163 := gs_ hg; replace HB := hbs_ hb; have NB160_163 := nl_ hg BK160; have NB163_160 := nr_ hg BK160; replace BK160 := bkb_ BK160 hb; clear hb hbox hg; have hnb12 := NB163_160.out; have hnc12 := NB160_163.out; obtain ⟨hcz13, hfz13⟩ := bcf_ BK163)))
     (try simp only [Act.put, sb_, sz_, ss_])
     go_cut [45] (fun v45 wc => ∃ (kq : Nat) (x45_8 : Bool), v45 = .bool x45_8 ∧ Aside0 (spec_RingOk.j1 kq x3_1 x45_8 l0_0 ((rd_T68 l0_0 x3_1).f0) ((rd_T68 l0_0 x3_1).f1) ((rd_T68 l0_0 x3_1).f2) ((rd_T68 l0_0 x3_1).f3) ((rd_T68 l0_0 x3_1).f4) ((rd_T68 l0_0 x3_1).f5) = some r) ∧ Aside0 (kq ≤ k1) ∧ Aside0 (wc.heap[gb160]? = some (.cells #[(.slice (some ad162) l0_0.length c0_0)] 35 (0, 0))) ∧ Aside0 (wc.heap[gb163]? = some (.cells #[.int .i64 ((rd_T68 l0_0 x3_1).f0), .bool ((rd_T68 l0_0 x3_1).f1), .int .i64 ((rd_T68 l0_0 x3_1).f2), (.slice A162_3 ((rd_T68 l0_0 x3_1).f3).length c162_3), (.slice A162_4 ((rd_T68 l0_0 x3_1).f4).length c162_4), (.slice A162_5 ((rd_T68 l0_0 x3_1).f5).length c162_5)] 68 (0, 0))) ∧ Aside0 (Below w.heap.size w wc))
     case first =>
      have H := HC9.out
      clear HC9
      obtain ⟨t164, A14, H⟩ := bindE_ H
      by_cases c15 : t164 = true
      ·subst c15
       replace H := ite_t_ H
       by_cases c16 : x3_1 < 4
       ·rw [if_pos c16] at H
        have c16b0 : decide (x3_1 < 4) = true := decide_eq_true c16
        clear c16
        (first | rw [c16b0] | (simp only [i64_w, i32_w]; rw [c16b0]) | skip)
        obtain ⟨bq17, hbq17⟩ : ∃ b_ : Bool, b_ = ((rd_T68 l0_0 x3_1).f1) := ⟨_, rfl⟩
        replace H : (if (bq17 = true) then (if bq17 = true then ((spec_NextOf.f k1 l0_0 ((rd_T68 l0_0 x3_1).f0)).bind fun t165 => (spec_RingOk.j1 k1 x3_1 (decide (t165 < 0)) l0_0 ((rd_T68 l0_0 x3_1).f0) bq17 ((rd_T68 l0_0 x3_1).f2) ((rd_T68 l0_0 x3_1).f3) ((rd_T68 l0_0 x3_1).f4) ((rd_T68 l0_0 x3_1).f5))) else (spec_RingOk.j1 k1 x3_1 false l0_0 ((rd_T68 l0_0 x3_1).f0) bq17 ((rd_T68 l0_0 x3_1).f2) ((rd_T68 l0_0 x3_1).f3) ((rd_T68 l0_0 x3_1).f4) ((rd_T68 l0_0 x3_1).f5))) else (spec_RingOk.j1 k1 x3_1 true l0_0 ((rd_T68 l0_0 x3_1).f0) bq17 ((rd_T68 l0_0 x3_1).f2) ((rd_T68 l0_0 x3_1).f3) ((rd_T68 l0_0 x3_1).f4) ((rd_T68 l0_0 x3_1).f5))) = some r := by rw [← hbq17] at H; exact H
        have Nbq17 := aa_ hbq17
        clear hbq17
        by_cases c18 : (bq17 = true)
        ·subst c18
         have hbe_ := Nbq17.out
         replace A14 := aa_ (by have h_ := A14.out; rw [← hbe_] at h_; exact h_)
         (try rw [← hbe_])
         clear hbe_
         replace H := ite_t_ H
         replace H := ite_t_ H
         obtain ⟨t165, A19, H⟩ := bindE_ H
         have H' := aa_ H
         clear H
         have hnb20 := NB163_160.out
         have hnc20 := NB160_163.out
         have hcz21 := blk_cell BK163.out
         have hfz21 := blk_frozen BK163.out
         go_wp2_with (first | (go_at_call 31; (with_reducible refine (spec_PeerOk.calls k1 ((rd_T68 l0_0 x3_1).f0) true ((rd_T68 l0_0 x3_1).f2) _ _ ((rd_T68 l0_0 x3_1).f3) _ _ ((rd_T68 l0_0 x3_1).f4) _ _ ((rd_T68 l0_0 x3_1).f5) true _ ?side1 ?side2 ?side3 ?side4 ?side5 ?side6 A14.out).mono ?_); (case side1 => exact Kd.C_below HR162_3.out bl_); (case side2 => exact HC162_3.out); (case side3 => exact Kd.C_below HR162_4.out bl_); (case side4 => exact HC162_4.out); (case side5 => exact Kd.C_below HR162_5.out bl_); (case side6 => exact HC162_5.out); rintro e w22 ⟨rfl, hb⟩; replace BK160 := aa_ (blk_below (g := gb160) (o := .cells #[.slice (some ad162) l0_0.length c0_0] 35 (0, 0)) (bk_ BK160) hb); replace BK163 := aa_ (blk_below (g := gb163) (o := .cells #[.int .i64 ((rd_T68 l0_0 x3_1).f0), .bool true, .int .i64 ((rd_T68 l0_0 x3_1).f2), .slice A162_3 ((rd_T68 l0_0 x3_1).f3).length c162_3, .slice A162_4 ((rd_T68 l0_0 x3_1).f4).length c162_4, .slice A162_5 ((rd_T68 l0_0 x3_1).f5).length c162_5] 68 (0, 0)) (bk_ BK163) hb); replace HB := hbs_ hb; clear hb; obtain ⟨hcz23, hfz23⟩ := bcf_ BK163; obtain ⟨hcz24, hfz24⟩ := bcf_ BK160) | (go_at_call 32; (with_reducible refine (spec_NextOf.calls k1 _ _ l0_0 ((rd_T68 l0_0 x3_1).f0) t165 _ ?side1 ?side2 A19.out).mono ?_); (case side1 => repeat (first | exact (Kd.C_below HR0_0.out HB.out) | (with_reducible refine Kd.C_alloc ?_ _) | (with_reducible refine Kd.C_drewN ?_ _) | (with_reducible refine Kd.C_drew ?_))); (case side2 => exact HC0_0.out); rintro e w25 ⟨rfl, hb⟩; replace BK160 := bkb_ BK160 hb; replace BK163 := bkb_ BK163 hb; replace HB := hbs_ hb; clear hb))
         repeat (go_quiet (first | (go_at_call 31; (with_reducible refine (spec_PeerOk.calls k1 ((rd_T68 l0_0 x3_1).f0) true ((rd_T68 l0_0 x3_1).f2) _ _ ((rd_T68 l0_0 x3_1).f3) _ _ ((rd_T68 l0_0 x3_1).f4) _ _ ((rd_T68 l0_0 x3_1).f5) true _ ?side1 ?side2 ?side3 ?side4 ?side5 ?side6 A14.out).mono ?_); (case side1 => exact Kd.C_below HR162_3.out bl_); (case side2 => exact HC162_3.out); (case side3 => exact Kd.C_below HR162_4.out bl_); (case side4 => exact HC162_4.out); (case side5 => exact Kd.C_below HR162_5.out bl_); (case side6 => exact HC162_5.out); rintro e w22 ⟨rfl, hb⟩; replace BK160 := aa_ (blk_below (g := gb160) (o := .cells #[.slice (some ad162) l0_0.length c0_0] 35 (0, 0)) (bk_ BK160) hb); replace BK163 := aa_ (blk_below (g := gb163) (o := .cells #[.int .i64 ((rd_T68 l0_0 x3_1).f0), .bool true, .int .i64 ((rd_T68 l0_0 x3_1).f2), .slice A162_3 ((rd_T68 l0_0 x3_1).f3).length c162_3, .slice A162_4 ((rd_T68 l0_0 x3_1).f4).length c162_4, .slice A162_5 ((rd_T68 l0_0 x3_1).f5).length c162_5] 68 (0, 0)) (bk_ BK163) hb); replace HB := hbs_ hb; clear hb; obtain ⟨hcz23, hfz23⟩ := bcf_ BK163; obtain ⟨hcz24, hfz24⟩ := bcf_ BK160) | (go_at_call 32; (with_reducible refine (spec_NextOf.calls k1 _ _ l0_0 ((rd_T68 l0_0 x3_1).f0) t165 _ ?side1 ?side2 A19.out).mono ?_); (case side1 => repeat (first | exact (Kd.C_below HR0_0.out HB.out) | (with_reducible refine Kd.C_alloc ?_ _) | (with_reducible refine Kd.C_drewN ?_ _) | (with_reducible refine Kd.C_drew ?_))); (case side2 => exact HC0_0.out); rintro e w25 ⟨rfl, hb⟩; replace BK160 := bkb_ BK160 hb; replace BK163 := bkb_ BK163 hb; replace HB := hbs_ hb; clear hb)); try go_wp2_with (first | (go_at_call 31; (with_reducible refine (spec_PeerOk.calls k1 ((rd_T68 l0_0 x3_1).f0) true ((rd_T68 l0_0 x3_1).f2) _ _ ((rd_T68 l0_0 x3_1).f3) _ _ ((rd_T68 l0_0 x3_1).f4) _ _ ((rd_T68 l0_0 x3_1).f5) true _ ?side1 ?side2 ?side3 ?side4 ?side5 ?side6 A14.out).mono ?_); (case side1 => exact Kd.C_below HR162_3.out bl_); (case side2 => exact HC162_3.out); (case side3 => exact Kd.C_below HR162_4.out bl_); (case side4 => exact HC162_4.out); (case side5 => exact Kd.C_below HR162_5.out bl_); (case side6 => exact HC162_5.out); rintro e w22 ⟨rfl, hb⟩; replace BK160 := aa_ (blk_below (g := gb160) (o := .cells #[.slice (some ad162) l0_0.length c0_0] 35 (0, 0)) (bk_ BK160) hb); replace BK163 := aa_ (blk_below (g := gb163) (o := .cells #[.int .i64 ((rd_T68 l0_0 x3_1).f0), .bool true, .int .i64 ((rd_T68 l0_0 x3_1).f2), .slice A162_3 ((rd_T68 l0_0 x3_1).f3).length c162_3, .slice A162_4 ((rd_T68 l0_0 x3_1).f4).length c162_4, .slice A162_5 ((rd_T68 l0_0 x3_1).f5).length c162_5] 68 (0, 0)) (bk_ BK163) hb); replace HB := hbs_ hb; clear hb; obtain ⟨hcz23, hfz23⟩ := bcf_ BK163; obtain ⟨hcz24, hfz24⟩ := bcf_ BK160) | (go_at_call 32; (with_reducible refine (spec_NextOf.calls k1 _ _ l0_0 ((rd_T68 l0_0 x3_1).f0) t165 _ ?side1 ?side2 A19.out).mono ?_); (case side1 => repeat (first | exact (Kd.C_below HR0_0.out HB.out) | (with_reducible refine Kd.C_alloc ?_ _) | (with_reducible refine Kd.C_drewN ?_ _) | (with_reducible refine Kd.C_drew ?_))); (case side2 => exact HC0_0.out); rintro e w25 ⟨rfl, hb⟩; replace BK160 := bkb_ BK160 hb; replace BK163 := bkb_ BK163 hb; replace HB := hbs_ hb; clear hb)))
         go_meet
         case rel => (try rw [← Nbq17.out]); exact ⟨_, (decide (t165 < 0)), rf_, H', ⟨by have := HK1.out; first | omega | exact Nat.le_refl _⟩, ⟨bk_ BK160⟩, ⟨bk_ BK163⟩, ⟨bl_⟩⟩
        ·replace c18 := Bool.eq_false_iff.mpr c18
         subst c18
         have hbe_ := Nbq17.out
         replace A14 := aa_ (by have h_ := A14.out; rw [← hbe_] at h_; exact h_)
         (try rw [← hbe_])
         clear hbe_
         replace H := ite_f_ H
         have H' := aa_ H
         clear H
         have hnb26 := NB163_160.out
         have hnc26 := NB160_163.out
         have hcz27 := blk_cell BK163.out
         have hfz27 := blk_frozen BK163.out
         go_wp2_with (first | (go_at_call 31; (with_reducible refine (spec_PeerOk.calls k1 ((rd_T68 l0_0 x3_1).f0) false ((rd_T68 l0_0 x3_1).f2) _ _ ((rd_T68 l0_0 x3_1).f3) _ _ ((rd_T68 l0_0 x3_1).f4) _ _ ((rd_T68 l0_0 x3_1).f5) true _ ?side1 ?side2 ?side3 ?side4 ?side5 ?side6 A14.out).mono ?_); (case side1 => exact Kd.C_below HR162_3.out bl_); (case side2 => exact HC162_3.out); (case side3 => exact Kd.C_below HR162_4.out bl_); (case side4 => exact HC162_4.out); (case side5 => exact Kd.C_below HR162_5.out bl_); (case side6 => exact HC162_5.out); rintro e w28 ⟨rfl, hb⟩; replace BK160 := aa_ (blk_below (g := gb160) (o := .cells #[.slice (some ad162) l0_0.length c0_0] 35 (0, 0)) (bk_ BK160) hb); replace BK163 := aa_ (blk_below (g := gb163) (o := .cells #[.int .i64 ((rd_T68 l0_0 x3_1).f0), .bool false, .int .i64 ((rd_T68 l0_0 x3_1).f2), .slice A162_3 ((rd_T68 l0_0 x3_1).f3).length c162_3, .slice A162_4 ((rd_T68 l0_0 x3_1).f4).length c162_4, .slice A162_5 ((rd_T68 l0_0 x3_1).f5).length c162_5] 68 (0, 0)) (bk_ BK163) hb); replace HB := hbs_ hb; clear hb; obtain ⟨hcz29, hfz29⟩ := bcf_ BK163))
         repeat (go_quiet (first | (go_at_call 31; (with_reducible refine (spec_PeerOk.calls k1 ((rd_T68 l0_0 x3_1).f0) false ((rd_T68 l0_0 x3_1).f2) _ _ ((rd_T68 l0_0 x3_1).f3) _ _ ((rd_T68 l0_0 x3_1).f4) _ _ ((rd_T68 l0_0 x3_1).f5) true _ ?side1 ?side2 ?side3 ?side4 ?side5 ?side6 A14.out).mono ?_); (case side1 => exact Kd.C_below HR162_3.out bl_); (case side2 => exact HC162_3.out); (case side3 => exact Kd.C_below HR162_4.out bl_); (case side4 => exact HC162_4.out); (case side5 => exact Kd.C_below HR162_5.out bl_); (case side6 => exact HC162_5.out); rintro e w28 ⟨rfl, hb⟩; replace BK160 := aa_ (blk_below (g := gb160) (o := .cells #[.slice (some ad162) l0_0.length c0_0] 35 (0, 0)) (bk_ BK160) hb); replace BK163 := aa_ (blk_below (g := gb163) (o := .cells #[.int .i64 ((rd_T68 l0_0 x3_1).f0), .bool false, .int .i64 ((rd_T68 l0_0 x3_1).f2), .slice A162_3 ((rd_T68 l0_0 x3_1).f3).length c162_3, .slice A162_4 ((rd_T68 l0_0 x3_1).f4).length c162_4, .slice A162_5 ((rd_T68 l0_0 x3_1).f5).length c162_5] 68 (0, 0)) (bk_ BK163) hb); replace HB := hbs_ hb; clear hb; obtain ⟨hcz29, hfz29⟩ := bcf_ BK163)); try go_wp2_with (first | (go_at_call 31; (with_reducible refine (spec_PeerOk.calls k1 ((rd_T68 l0_0 x3_1).f0) false ((rd_T68 l0_0 x3_1).f2) _ _ ((rd_T68 l0_0 x3_1).f3) _ _ ((rd_T68 l0_0 x3_1).f4) _ _ ((rd_T68 l0_0 x3_1).f5) true _ ?side1 ?side2 ?side3 ?side4 ?side5 ?side6 A14.out).mono ?_); (case side1 => exact Kd.C_below HR162_3.out bl_); (case side2 => exact HC162_3.out); (case side3 => exact Kd.C_below HR162_4.out bl_); (case side4 => exact HC162_4.out); (case side5 => exact Kd.C_below HR162_5.out bl_); (case side6 => exact HC162_5.out); rintro e w28 ⟨rfl, hb⟩; replace BK160 := aa_ (blk_below (g := gb160) (o := .cells #[.slice (some ad162) l0_0.length c0_0] 35 (0, 0)) (bk_ BK160) hb); replace BK163 := aa_ (blk_below (g := gb163) (o := .cells #[.int .i64 ((rd_T68 l0_0 x3_1).f0), .bool false, .int .i64 ((rd_T68 l0_0 x3_1).f2), .slice A162_3 ((rd_T68 l0_0 x3_1).f3).length c162_3, .slice A162_4 ((rd_T68 l0_0 x3_1).f4).length c162_4, .slice A162_5 ((rd_T68 l0_0 x3_1).f5).length c162_5] 68 (0, 0)) (bk_ BK163) hb); replace HB := hbs_ hb; clear hb; obtain ⟨hcz29, hfz29⟩ := bcf_ BK163)))
         go_meet
         case rel => (try rw [← Nbq17.out]); exact ⟨_, (true), rf_, H', ⟨by have := HK1.out; first | omega | exact Nat.le_refl _⟩, ⟨bk_ BK160⟩, ⟨bk_ BK163⟩, ⟨bl_⟩⟩
       ·rw [if_neg c16] at H
        have c16b0 : decide (x3_1 < 4) = false := decide_eq_false c16
        clear c16
        (first | rw [c16b0] | (simp only [i64_w, i32_w]; rw [c16b0]) | skip)
        obtain ⟨bq30, hbq30⟩ : ∃ b_ : Bool, b_ = ((rd_T68 l0_0 x3_1).f1) := ⟨_, rfl⟩
        replace H : (if bq30 = true then ((spec_NextOf.f k1 l0_0 ((rd_T68 l0_0 x3_1).f0)).bind fun t166 => (spec_RingOk.j1 k1 x3_1 (decide (t166 < 0)) l0_0 ((rd_T68 l0_0 x3_1).f0) bq30 ((rd_T68 l0_0 x3_1).f2) ((rd_T68 l0_0 x3_1).f3) ((rd_T68 l0_0 x3_1).f4) ((rd_T68 l0_0 x3_1).f5))) else (spec_RingOk.j1 k1 x3_1 false l0_0 ((rd_T68 l0_0 x3_1).f0) bq30 ((rd_T68 l0_0 x3_1).f2) ((rd_T68 l0_0 x3_1).f3) ((rd_T68 l0_0 x3_1).f4) ((rd_T68 l0_0 x3_1).f5))) = some r := by rw [← hbq30] at H; exact H
        have Nbq30 := aa_ hbq30
        clear hbq30
        by_cases c31 : bq30 = true
        ·subst c31
         have hbe_ := Nbq30.out
         replace A14 := aa_ (by have h_ := A14.out; rw [← hbe_] at h_; exact h_)
         (try rw [← hbe_])
         clear hbe_
         replace H := ite_t_ H
         obtain ⟨t166, A32, H⟩ := bindE_ H
         have H' := aa_ H
         clear H
         have hnb33 := NB163_160.out
         have hnc33 := NB160_163.out
         have hcz34 := blk_cell BK163.out
         have hfz34 := blk_frozen BK163.out
         go_wp2_with (first | (go_at_call 31; (with_reducible refine (spec_PeerOk.calls k1 ((rd_T68 l0_0 x3_1).f0) true ((rd_T68 l0_0 x3_1).f2) _ _ ((rd_T68 l0_0 x3_1).f3) _ _ ((rd_T68 l0_0 x3_1).f4) _ _ ((rd_T68 l0_0 x3_1).f5) true _ ?side1 ?side2 ?side3 ?side4 ?side5 ?side6 A14.out).mono ?_); (case side1 => exact Kd.C_below HR162_3.out bl_); (case side2 => exact HC162_3.out); (case side3 => exact Kd.C_below HR162_4.out bl_); (case side4 => exact HC162_4.out); (case side5 => exact Kd.C_below HR162_5.out bl_); (case side6 => exact HC162_5.out); rintro e w35 ⟨rfl, hb⟩; replace BK160 := aa_ (blk_below (g := gb160) (o := .cells #[.slice (some ad162) l0_0.length c0_0] 35 (0, 0)) (bk_ BK160) hb); replace BK163 := aa_ (blk_below (g := gb163) (o := .cells #[.int .i64 ((rd_T68 l0_0 x3_1).f0), .bool true, .int .i64 ((rd_T68 l0_0 x3_1).f2), .slice A162_3 ((rd_T68 l0_0 x3_1).f3).length c162_3, .slice A162_4 ((rd_T68 l0_0 x3_1).f4).length c162_4, .slice A162_5 ((rd_T68 l0_0 x3_1).f5).length c162_5] 68 (0, 0)) (bk_ BK163) hb); replace HB := hbs_ hb; clear hb; obtain ⟨hcz36, hfz36⟩ := bcf_ BK163; obtain ⟨hcz37, hfz37⟩ := bcf_ BK160) | (go_at_call 32; (with_reducible refine (spec_NextOf.calls k1 _ _ l0_0 ((rd_T68 l0_0 x3_1).f0) t166 _ ?side1 ?side2 A32.out).mono ?_); (case side1 => repeat (first | exact (Kd.C_below HR0_0.out HB.out) | (with_reducible refine Kd.C_alloc ?_ _) | (with_reducible refine Kd.C_drewN ?_ _) | (with_reducible refine Kd.C_drew ?_))); (case side2 => exact HC0_0.out); rintro e w38 ⟨rfl, hb⟩; replace BK160 := bkb_ BK160 hb; replace BK163 := bkb_ BK163 hb; replace HB := hbs_ hb; clear hb))
         repeat (go_quiet (first | (go_at_call 31; (with_reducible refine (spec_PeerOk.calls k1 ((rd_T68 l0_0 x3_1).f0) true ((rd_T68 l0_0 x3_1).f2) _ _ ((rd_T68 l0_0 x3_1).f3) _ _ ((rd_T68 l0_0 x3_1).f4) _ _ ((rd_T68 l0_0 x3_1).f5) true _ ?side1 ?side2 ?side3 ?side4 ?side5 ?side6 A14.out).mono ?_); (case side1 => exact Kd.C_below HR162_3.out bl_); (case side2 => exact HC162_3.out); (case side3 => exact Kd.C_below HR162_4.out bl_); (case side4 => exact HC162_4.out); (case side5 => exact Kd.C_below HR162_5.out bl_); (case side6 => exact HC162_5.out); rintro e w35 ⟨rfl, hb⟩; replace BK160 := aa_ (blk_below (g := gb160) (o := .cells #[.slice (some ad162) l0_0.length c0_0] 35 (0, 0)) (bk_ BK160) hb); replace BK163 := aa_ (blk_below (g := gb163) (o := .cells #[.int .i64 ((rd_T68 l0_0 x3_1).f0), .bool true, .int .i64 ((rd_T68 l0_0 x3_1).f2), .slice A162_3 ((rd_T68 l0_0 x3_1).f3).length c162_3, .slice A162_4 ((rd_T68 l0_0 x3_1).f4).length c162_4, .slice A162_5 ((rd_T68 l0_0 x3_1).f5).length c162_5] 68 (0, 0)) (bk_ BK163) hb); replace HB := hbs_ hb; clear hb; obtain ⟨hcz36, hfz36⟩ := bcf_ BK163; obtain ⟨hcz37, hfz37⟩ := bcf_ BK160) | (go_at_call 32; (with_reducible refine (spec_NextOf.calls k1 _ _ l0_0 ((rd_T68 l0_0 x3_1).f0) t166 _ ?side1 ?side2 A32.out).mono ?_); (case side1 => repeat (first | exact (Kd.C_below HR0_0.out HB.out) | (with_reducible refine Kd.C_alloc ?_ _) | (with_reducible refine Kd.C_drewN ?_ _) | (with_reducible refine Kd.C_drew ?_))); (case side2 => exact HC0_0.out); rintro e w38 ⟨rfl, hb⟩; replace BK160 := bkb_ BK160 hb; replace BK163 := bkb_ BK163 hb; replace HB := hbs_ hb; clear hb)); try go_wp2_with (first | (go_at_call 31; (with_reducible refine (spec_PeerOk.calls k1 ((rd_T68 l0_0 x3_1).f0) true ((rd_T68 l0_0 x3_1).f2) _ _ ((rd_T68 l0_0 x3_1).f3) _ _ ((rd_T68 l0_0 x3_1).f4) _ _ ((rd_T68 l0_0 x3_1).f5) true _ ?side1 ?side2 ?side3 ?side4 ?side5 ?side6 A14.out).mono ?_); (case side1 => exact Kd.C_below HR162_3.out bl_); (case side2 => exact HC162_3.out); (case side3 => exact Kd.C_below HR162_4.out bl_); (case side4 => exact HC162_4.out); (case side5 => exact Kd.C_below HR162_5.out bl_); (case side6 => exact HC162_5.out); rintro e w35 ⟨rfl, hb⟩; replace BK160 := aa_ (blk_below (g := gb160) (o := .cells #[.slice (some ad162) l0_0.length c0_0] 35 (0, 0)) (bk_ BK160) hb); replace BK163 := aa_ (blk_below (g := gb163) (o := .cells #[.int .i64 ((rd_T68 l0_0 x3_1).f0), .bool true, .int .i64 ((rd_T68 l0_0 x3_1).f2), .slice A162_3 ((rd_T68 l0_0 x3_1).f3).length c162_3, .slice A162_4 ((rd_T68 l0_0 x3_1).f4).length c162_4, .slice A162_5 ((rd_T68 l0_0 x3_1).f5).length c162_5] 68 (0, 0)) (bk_ BK163) hb); replace HB := hbs_ hb; clear hb; obtain ⟨hcz36, hfz36⟩ := bcf_ BK163; obtain ⟨hcz37, hfz37⟩ := bcf_ BK160) | (go_at_call 32; (with_reducible refine (spec_NextOf.calls k1 _ _ l0_0 ((rd_T68 l0_0 x3_1).f0) t166 _ ?side1 ?side2 A32.out).mono ?_); (case side1 => repeat (first | exact (Kd.C_below HR0_0.out HB.out) | (with_reducible refine Kd.C_alloc ?_ _) | (with_reducible refine Kd.C_drewN ?_ _) | (with_reducible refine Kd.C_drew ?_))); (case side2 => exact HC0_0.out); rintro e w38 ⟨rfl, hb⟩; replace BK160 := bkb_ BK160 hb; replace BK163 := bkb_ BK163 hb; replace HB := hbs_ hb; clear hb)))
         go_meet
         case rel => (try rw [← Nbq30.out]); exact ⟨_, (decide (t166 < 0)), rf_, H', ⟨by have := HK1.out; first | omega | exact Nat.le_refl _⟩, ⟨bk_ BK160⟩, ⟨bk_ BK163⟩, ⟨bl_⟩⟩
        ·replace c31 := Bool.eq_false_iff.mpr c31
         subst c31
         have hbe_ := Nbq30.out
         replace A14 := aa_ (by have h_ := A14.out; rw [← hbe_] at h_; exact h_)
         (try rw [← hbe_])
         clear hbe_
         replace H := ite_f_ H
         have H' := aa_ H
         clear H
         have hnb39 := NB163_160.out
         have hnc39 := NB160_163.out
         have hcz40 := blk_cell BK163.out
         have hfz40 := blk_frozen BK163.out
         go_wp2_with (first | (go_at_call 31; (with_reducible refine (spec_PeerOk.calls k1 ((rd_T68 l0_0 x3_1).f0) false ((rd_T68 l0_0 x3_1).f2) _ _ ((rd_T68 l0_0 x3_1).f3) _ _ ((rd_T68 l0_0 x3_1).f4) _ _ ((rd_T68 l0_0 x3_1).f5) true _ ?side1 ?side2 ?side3 ?side4 ?side5 ?side6 A14.out).mono ?_); (case side1 => exact Kd.C_below HR162_3.out bl_); (case side2 => exact HC162_3.out); (case side3 => exact Kd.C_below HR162_4.out bl_); (case side4 => exact HC162_4.out); (case side5 => exact Kd.C_below HR162_5.out bl_); (case side6 => exact HC162_5.out); rintro e w41 ⟨rfl, hb⟩; replace BK160 := aa_ (blk_below (g := gb160) (o := .cells #[.slice (some ad162) l0_0.length c0_0] 35 (0, 0)) (bk_ BK160) hb); replace BK163 := aa_ (blk_below (g := gb163) (o := .cells #[.int .i64 ((rd_T68 l0_0 x3_1).f0), .bool false, .int .i64 ((rd_T68 l0_0 x3_1).f2), .slice A162_3 ((rd_T68 l0_0 x3_1).f3).length c162_3, .slice A162_4 ((rd_T68 l0_0 x3_1).f4).length c162_4, .slice A162_5 ((rd_T68 l0_0 x3_1).f5).length c162_5] 68 (0, 0)) (bk_ BK163) hb); replace HB := hbs_ hb; clear hb; obtain ⟨hcz42, hfz42⟩ := bcf_ BK163))
         repeat (go_quiet (first | (go_at_call 31; (with_reducible refine (spec_PeerOk.calls k1 ((rd_T68 l0_0 x3_1).f0) false ((rd_T68 l0_0 x3_1).f2) _ _ ((rd_T68 l0_0 x3_1).f3) _ _ ((rd_T68 l0_0 x3_1).f4) _ _ ((rd_T68 l0_0 x3_1).f5) true _ ?side1 ?side2 ?side3 ?side4 ?side5 ?side6 A14.out).mono ?_); (case side1 => exact Kd.C_below HR162_3.out bl_); (case side2 => exact HC162_3.out); (case side3 => exact Kd.C_below HR162_4.out bl_); (case side4 => exact HC162_4.out); (case side5 => exact Kd.C_below HR162_5.out bl_); (case side6 => exact HC162_5.out); rintro e w41 ⟨rfl, hb⟩; replace BK160 := aa_ (blk_below (g := gb160) (o := .cells #[.slice (some ad162) l0_0.length c0_0] 35 (0, 0)) (bk_ BK160) hb); replace BK163 := aa_ (blk_below (g := gb163) (o := .cells #[.int .i64 ((rd_T68 l0_0 x3_1).f0), .bool false, .int .i64 ((rd_T68 l0_0 x3_1).f2), .slice A162_3 ((rd_T68 l0_0 x3_1).f3).length c162_3, .slice A162_4 ((rd_T68 l0_0 x3_1).f4).length c162_4, .slice A162_5 ((rd_T68 l0_0 x3_1).f5).length c162_5] 68 (0, 0)) (bk_ BK163) hb); replace HB := hbs_ hb; clear hb; obtain ⟨hcz42, hfz42⟩ := bcf_ BK163)); try go_wp2_with (first | (go_at_call 31; (with_reducible refine (spec_PeerOk.calls k1 ((rd_T68 l0_0 x3_1).f0) false ((rd_T68 l0_0 x3_1).f2) _ _ ((rd_T68 l0_0 x3_1).f3) _ _ ((rd_T68 l0_0 x3_1).f4) _ _ ((rd_T68 l0_0 x3_1).f5) true _ ?side1 ?side2 ?side3 ?side4 ?side5 ?side6 A14.out).mono ?_); (case side1 => exact Kd.C_below HR162_3.out bl_); (case side2 => exact HC162_3.out); (case side3 => exact Kd.C_below HR162_4.out bl_); (case side4 => exact HC162_4.out); (case side5 => exact Kd.C_below HR162_5.out bl_); (case side6 => exact HC162_5.out); rintro e w41 ⟨rfl, hb⟩; replace BK160 := aa_ (blk_below (g := gb160) (o := .cells #[.slice (some ad162) l0_0.length c0_0] 35 (0, 0)) (bk_ BK160) hb); replace BK163 := aa_ (blk_below (g := gb163) (o := .cells #[.int .i64 ((rd_T68 l0_0 x3_1).f0), .bool false, .int .i64 ((rd_T68 l0_0 x3_1).f2), .slice A162_3 ((rd_T68 l0_0 x3_1).f3).length c162_3, .slice A162_4 ((rd_T68 l0_0 x3_1).f4).length c162_4, .slice A162_5 ((rd_T68 l0_0 x3_1).f5).length c162_5] 68 (0, 0)) (bk_ BK163) hb); replace HB := hbs_ hb; clear hb; obtain ⟨hcz42, hfz42⟩ := bcf_ BK163)))
         go_meet
         case rel => (try rw [← Nbq30.out]); exact ⟨_, (false), rf_, H', ⟨by have := HK1.out; first | omega | exact Nat.le_refl _⟩, ⟨bk_ BK160⟩, ⟨bk_ BK163⟩, ⟨bl_⟩⟩
      ·replace c15 := Bool.eq_false_iff.mpr c15
       subst c15
       replace H := ite_f_ H
       have H' := aa_ H
       clear H
       have hnb43 := NB163_160.out
       have hnc43 := NB160_163.out
       have hcz44 := blk_cell BK163.out
       have hfz44 := blk_frozen BK163.out
       go_wp2_with (first | (go_at_call 31; (with_reducible refine (spec_PeerOk.calls k1 ((rd_T68 l0_0 x3_1).f0) ((rd_T68 l0_0 x3_1).f1) ((rd_T68 l0_0 x3_1).f2) _ _ ((rd_T68 l0_0 x3_1).f3) _ _ ((rd_T68 l0_0 x3_1).f4) _ _ ((rd_T68 l0_0 x3_1).f5) false _ ?side1 ?side2 ?side3 ?side4 ?side5 ?side6 A14.out).mono ?_); (case side1 => exact Kd.C_below HR162_3.out bl_); (case side2 => exact HC162_3.out); (case side3 => exact Kd.C_below HR162_4.out bl_); (case side4 => exact HC162_4.out); (case side5 => exact Kd.C_below HR162_5.out bl_); (case side6 => exact HC162_5.out); rintro e w45 ⟨rfl, hb⟩; replace BK160 := aa_ (blk_below (g := gb160) (o := .cells #[.slice (some ad162) l0_0.length c0_0] 35 (0, 0)) (bk_ BK160) hb); replace BK163 := aa_ (blk_below (g := gb163) (o := .cells #[.int .i64 ((rd_T68 l0_0 x3_1).f0), .bool ((rd_T68 l0_0 x3_1).f1), .int .i64 ((rd_T68 l0_0 x3_1).f2), .slice A162_3 ((rd_T68 l0_0 x3_1).f3).length c162_3, .slice A162_4 ((rd_T68 l0_0 x3_1).f4).length c162_4, .slice A162_5 ((rd_T68 l0_0 x3_1).f5).length c162_5] 68 (0, 0)) (bk_ BK163) hb); replace HB := hbs_ hb; clear hb))
       repeat (go_quiet (first | (go_at_call 31; (with_reducible refine (spec_PeerOk.calls k1 ((rd_T68 l0_0 x3_1).f0) ((rd_T68 l0_0 x3_1).f1) ((rd_T68 l0_0 x3_1).f2) _ _ ((rd_T68 l0_0 x3_1).f3) _ _ ((rd_T68 l0_0 x3_1).f4) _ _ ((rd_T68 l0_0 x3_1).f5) false _ ?side1 ?side2 ?side3 ?side4 ?side5 ?side6 A14.out).mono ?_); (case side1 => exact Kd.C_below HR162_3.out bl_); (case side2 => exact HC162_3.out); (case side3 => exact Kd.C_below HR162_4.out bl_); (case side4 => exact HC162_4.out); (case side5 => exact Kd.C_below HR162_5.out bl_); (case side6 => exact HC162_5.out); rintro e w45 ⟨rfl, hb⟩; replace BK160 := aa_ (blk_below (g := gb160) (o := .cells #[.slice (some ad162) l0_0.length c0_0] 35 (0, 0)) (bk_ BK160) hb); replace BK163 := aa_ (blk_below (g := gb163) (o := .cells #[.int .i64 ((rd_T68 l0_0 x3_1).f0), .bool ((rd_T68 l0_0 x3_1).f1), .int .i64 ((rd_T68 l0_0 x3_1).f2), .slice A162_3 ((rd_T68 l0_0 x3_1).f3).length c162_3, .slice A162_4 ((rd_T68 l0_0 x3_1).f4).length c162_4, .slice A162_5 ((rd_T68 l0_0 x3_1).f5).length c162_5] 68 (0, 0)) (bk_ BK163) hb); replace HB := hbs_ hb; clear hb)); try go_wp2_with (first | (go_at_call 31; (with_reducible refine (spec_PeerOk.calls k1 ((rd_T68 l0_0 x3_1).f0) ((rd_T68 l0_0 x3_1).f1) ((rd_T68 l0_0 x3_1).f2) _ _ ((rd_T68 l0_0 x3_1).f3) _ _ ((rd_T68 l0_0 x3_1).f4) _ _ ((rd_T68 l0_0 x3_1).f5) false _ ?side1 ?side2 ?side3 ?side4 ?side5 ?side6 A14.out).mono ?_); (case side1 => exact Kd.C_below HR162_3.out bl_); (case side2 => exact HC162_3.out); (case side3 => exact Kd.C_below HR162_4.out bl_); (case side4 => exact HC162_4.out); (case side5 => exact Kd.C_below HR162_5.out bl_); (case side6 => exact HC162_5.out); rintro e w45 ⟨rfl, hb⟩; replace BK160 := aa_ (blk_below (g := gb160) (o := .cells #[.slice (some ad162) l0_0.length c0_0] 35 (0, 0)) (bk_ BK160) hb); replace BK163 := aa_ (blk_below (g := gb163) (o := .cells #[.int .i64 ((rd_T68 l0_0 x3_1).f0), .bool ((rd_T68 l0_0 x3_1).f1), .int .i64 ((rd_T68 l0_0 x3_1).f2), .slice A162_3 ((rd_T68 l0_0 x3_1).f3).length c162_3, .slice A162_4 ((rd_T68 l0_0 x3_1).f4).length c162_4, .slice A162_5 ((rd_T68 l0_0 x3_1).f5).length c162_5] 68 (0, 0)) (bk_ BK163) hb); replace HB := hbs_ hb; clear hb)))
       go_meet
       case rel => exact ⟨_, (true), rf_, H', ⟨by have := HK1.out; first | omega | exact Nat.le_refl _⟩, ⟨bk_ BK160⟩, ⟨bk_ BK163⟩, ⟨bl_⟩⟩
     case rest =>
      clear HC9
      try clear p1
      try clear q1
      try clear hx1
      try clear p2
      try clear q3
      try clear c7b0
      try clear c8b0
      try clear c16b0
      try clear p16
      try clear q16
      try clear hx16
      try clear q17
      try clear q30
      try clear hcz10
      try clear hcz13
      try clear hcz21
      try clear hcz23
      try clear hcz24
      try clear hcz27
      try clear hcz29
      try clear hcz34
      try clear hcz36
      try clear hcz37
      try clear hcz40
      try clear hcz42
      try clear hcz44
      try clear hcz5
      try clear hfz10
      try clear hfz13
      try clear hfz21
      try clear hfz23
      try clear hfz24
      try clear hfz27
      try clear hfz29
      try clear hfz34
      try clear hfz36
      try clear hfz37
      try clear hfz40
      try clear hfz42
      try clear hfz44
      try clear hfz5
      try clear hx162_0
      try clear hx162_1
      try clear hx162_2
      try clear hx162_3
      try clear hx162_4
      try clear hx162_5
      try clear p162
      try clear p2
      try clear q162
      obtain ⟨kq, x45_8, rfl, HA, HJ8, BK160, BK163, HB⟩ := hcut
      cases kq with
      | zero => exact absurd HA.out (by simp [spec_RingOk.j1])
      | succ kj8 =>
       have H := HA.out
       clear HA
       simp only [spec_RingOk.j1] at H
       by_cases c46 : x45_8 = true
       ·subst c46
        replace H := ite_t_ H
        obtain rfl := Option.some.inj H
        go_wp2
        repeat (go_quiet (fail); try go_wp2)
        go_ret
        exact ⟨eq_, bl_⟩
       ·replace c46 := Bool.eq_false_iff.mpr c46
        subst c46
        replace H := ite_f_ H
        have H' := aa_ H
        clear H
        go_wp2
        repeat (go_quiet (fail); try go_wp2)
        go_loopg [5] kj8 (fun kq v5 w' => ∃ (x5_3 : Int), v5 = .int .i64 x5_3 ∧ Aside0 (spec_RingOk.l1 kq x3_1 x5_3 l0_0 ((rd_T68 l0_0 x3_1).f0) ((rd_T68 l0_0 x3_1).f1) ((rd_T68 l0_0 x3_1).f2) ((rd_T68 l0_0 x3_1).f3) ((rd_T68 l0_0 x3_1).f4) ((rd_T68 l0_0 x3_1).f5) = some r) ∧ Aside0 (kq ≤ kj8) ∧ Aside0 (w'.heap[gb160]? = some (.cells #[(.slice (some ad162) l0_0.length c0_0)] 35 (0, 0))) ∧ Aside0 (w'.heap[gb163]? = some (.cells #[.int .i64 ((rd_T68 l0_0 x3_1).f0), .bool ((rd_T68 l0_0 x3_1).f1), .int .i64 ((rd_T68 l0_0 x3_1).f2), (.slice A162_3 ((rd_T68 l0_0 x3_1).f3).length c162_3), (.slice A162_4 ((rd_T68 l0_0 x3_1).f4).length c162_4), (.slice A162_5 ((rd_T68 l0_0 x3_1).f5).length c162_5)] 68 (0, 0))) ∧ Aside0 (Below w.heap.size w w'))
        case atStart => exact ⟨(0), rf_, H', ⟨Nat.le_refl _⟩, ⟨bk_ BK160⟩, ⟨bk_ BK163⟩, ⟨bl_⟩⟩
        case round =>
         clear H'
         try clear p1
         try clear q1
         try clear hx1
         try clear p2
         try clear q3
         try clear c7b0
         try clear c8b0
         try clear c16b0
         try clear p16
         try clear q16
         try clear hx16
         try clear q17
         try clear q30
         try clear hcz10
         try clear hcz13
         try clear hcz21
         try clear hcz23
         try clear hcz24
         try clear hcz27
         try clear hcz29
         try clear hcz34
         try clear hcz36
         try clear hcz37
         try clear hcz40
         try clear hcz42
         try clear hcz44
         try clear hcz5
         try clear hfz10
         try clear hfz13
         try clear hfz21
         try clear hfz23
         try clear hfz24
         try clear hfz27
         try clear hfz29
         try clear hfz34
         try clear hfz36
         try clear hfz37
         try clear hfz40
         try clear hfz42
         try clear hfz44
         try clear hfz5
         try clear hx162_0
         try clear hx162_1
         try clear hx162_2
         try clear hx162_3
         try clear hx162_4
         try clear hx162_5
         try clear p1
         try clear p16
         try clear p162
         try clear p2
         try clear q1
         try clear q16
         try clear q162
         try clear q17
         try clear q3
         try clear q30
         obtain ⟨x5_3, rfl, HA, HK3, BK160, BK163, HB⟩ := hrel
         cases gk with
         | zero => exact absurd HA.out (by simp [spec_RingOk.l1])
         | succ k3 =>
          have H := HA.out
          clear HA
          simp only [spec_RingOk.l1] at H
          by_cases c47 : x5_3 < x3_1
          ·rw [if_pos c47] at H
           have c47b0 : decide (x5_3 < x3_1) = true := decide_eq_true c47
           clear c47
           obtain ⟨c48b0, H⟩ := ifd_ H
           obtain ⟨c49b0, H⟩ := ifd_ H
           have HC50 := aa_ H
           clear H
           have hnb51 := NB160_163.out
           have hnc51 := NB163_160.out
           have hcz52 := blk_cell BK160.out
           have hfz52 := blk_frozen BK160.out
           have p167 : 0 ≤ (x5_3 : Int) := od_
           have q167 : x5_3 < (l0_0.length : Int) := od_
           obtain ⟨ad167, A167_3, c167_3, A167_4, c167_4, A167_5, c167_5, e167, hx167_0, hx167_1, hx167_2, hx167_3, hx167_4, hx167_5, hl167_3, hi167_3, hl167_4, hi167_4, hl167_5, hi167_5⟩ := at_T68 HR0_0.out x5_3 p167 q167
           obtain rfl : ad162 = ad167 := (by injection e167)
           replace hx167_0 := cb_ HB hx167_0
           replace hx167_1 := cb_ HB hx167_1
           replace hx167_2 := cb_ HB hx167_2
           replace hx167_3 := cb_ HB hx167_3
           replace hx167_4 := cb_ HB hx167_4
           replace hx167_5 := cb_ HB hx167_5
           have HR167_3 := aa_ hi167_3
           have HC167_3 := aa_ hl167_3
           clear hi167_3 hl167_3
           have HR167_4 := aa_ hi167_4
           have HC167_4 := aa_ hl167_4
           clear hi167_4 hl167_4
           have HR167_5 := aa_ hi167_5
           have HC167_5 := aa_ hl167_5
           clear hi167_5 hl167_5
           replace p167 := eq_true p167
           replace q167 := eq_true q167
           have hcz53 := blk_cell BK163.out
           have hfz53 := blk_frozen BK163.out
           go_upto_if 59 with (fail)
           repeat (go_quiet (fail); go_upto_if 59 with (fail))
           have H := HC50.out
           clear HC50
           by_cases c54 : ((rd_T68 l0_0 x5_3).f0) = ((rd_T68 l0_0 x3_1).f0)
           ·rw [if_pos c54] at H
            have c54b0 : (((rd_T68 l0_0 x5_3).f0) == ((rd_T68 l0_0 x3_1).f0)) = true := beq_iff_eq.mpr c54
            have c54b1 : (((rd_T68 l0_0 x5_3).f0) != ((rd_T68 l0_0 x3_1).f0)) = false := bne_eq_false_iff_eq.mpr c54
            clear c54
            (first | rw [c54b0] | (simp only [i64_w, i32_w]; rw [c54b0]) | skip)
            obtain rfl := Option.some.inj H
            go_wp2
            repeat (go_quiet (fail); try go_wp2)
            go_ret
            exact ⟨eq_, bl_⟩
           ·rw [if_neg c54] at H
            have c54b0 : (((rd_T68 l0_0 x5_3).f0) == ((rd_T68 l0_0 x3_1).f0)) = false := beq_eq_false_iff_ne.mpr c54
            have c54b1 : (((rd_T68 l0_0 x5_3).f0) != ((rd_T68 l0_0 x3_1).f0)) = true := bne_iff_ne.mpr c54
            (first | rw [c54b0] | (simp only [i64_w, i32_w]; rw [c54b0]) | skip)
            have H' := aa_ H
            clear H
            go_wp2
            repeat (go_quiet (fail); try go_wp2)
            go_roundg k3
            case measure => have := HK1.out; have := HJ8.out; have := HK3.out; omega
            case rel => exact ⟨(wrap64 (x5_3 + 1)), rf_, H', ⟨by have := HK1.out; have := HJ8.out; have := HK3.out; omega⟩, ⟨bk_ BK160⟩, ⟨bk_ BK163⟩, ⟨bl_⟩⟩
          ·rw [if_neg c47] at H
           have c47b0 : decide (x5_3 < x3_1) = false := decide_eq_false c47
           clear c47
           have H' := aa_ H
           clear H
           go_wp2
           repeat (go_quiet (fail); try go_wp2)
           go_roundg k3
           case measure => have := HK1.out; have := HJ8.out; have := HK3.out; omega
           case rel => exact ⟨(wrap64 (x3_1 + 1)), rf_, H', ⟨by have := HK1.out; have := HJ8.out; have := HK3.out; omega⟩, ⟨bk_ BK160⟩, ⟨bl_⟩⟩
    ·rw [if_neg c7] at H
     have c7b0 : decide (x3_1 < (l0_0.length : Int)) = false := decide_eq_false c7
     clear c7
     (first | rw [c7b0] | (simp only [i64_w, i32_w]; rw [c7b0]) | (have cz_ := c7b0; simp only [Int.ofNat_lt, Int.ofNat_le, gt_iff_lt, ge_iff_le] at cz_; rw [cz_]; clear cz_) | skip)
     obtain rfl := Option.some.inj H
     have hcz55 := blk_cell BK160.out
     have hfz55 := blk_frozen BK160.out
     go_wp2
     repeat (go_quiet (fail); try go_wp2)
     go_ret
     exact ⟨eq_, bl_⟩
 ·replace c6 := Bool.eq_false_iff.mpr c6
  subst c6
  replace H := ite_f_ H
  obtain rfl := Option.some.inj H
  go_wp2
  repeat (go_quiet (fail); try go_wp2)
  go_ret
  exact ⟨eq_, bl_⟩
end Go.Proofs.YteofimccoadmeaaGreat.PA
