import Derived.Test.YtkimdmdkldlhpaaKCPAx13
-- printed by wip/tools
namespace Go.Proofs.Ytkimdmdkldlhpaa.PA
open Go.RowKit Go.Proofs.YtkimdmdkldlhpaaW.PrintWords Go.Proofs.YtkimdmdkldlhpaaW.PrintLast Go.Proofs.YtkimdmdkldlhpaaW.PrintMore
attribute [local go_sem] max2_int min2_int max_two min_two max_three min_three max_four min_four
set_option linter.unusedVariables false
set_option linter.unusedSimpArgs false
mutual
def impl_CopiesRight.l0 : Nat → List Int → Int → List (S42) → Option (Bool)
 | 0, _, _, _ => none
 | k + 1, x3, x13, x474000 => if x13 < 256 then ((impl_everyOf.f k x474000 x13).bind fun bt477 => (if bt477.2 = true then ((impl_OwnerOf.f k x3 x13).bind fun t481 => ((impl_HoldersOf.f k x474000 t481).bind fun t482 => (impl_CopiesRight.l1 k x3 x13 bt477.1 t482 x13 x474000 (x474000.length : Int) 0 x474000))) else (impl_CopiesRight.l0 k x3 (wrap64 (x13 + 1)) x474000))) else (some true)
def impl_CopiesRight.l1 : Nat → List Int → Int → List (S52) → List Int → Int → List (S42) → Int → Int → List (S42) → Option (Bool)
 | 0, _, _, _, _, _, _, _, _, _ => none
 | k + 1, x3, x4, x5, x7, x13, x30, x31, x32, x474000 => if x32 < x31 then (if 0 ≤ x32 then (if x32 < (x30.length : Int) then ((impl_shelfAt.f k ((rd_T42 x30 x32).f0) ((rd_T42 x30 x32).f1) ((rd_T42 x30 x32).f2) ((rd_T42 x30 x32).f3) ((rd_T42 x30 x32).f4) ((rd_T42 x30 x32).f5) x4).bind fun t487 => ((slices_Contains_int_int.f k x7 ((rd_T42 x30 x32).f0)).bind fun t488 => (if t488 = true then ((impl_ShelfOf.f k ((rd_T42 x30 x32).f0) ((rd_T42 x30 x32).f1) ((rd_T42 x30 x32).f2) ((rd_T42 x30 x32).f3) ((rd_T42 x30 x32).f4) ((rd_T42 x30 x32).f5) x4).bind fun t489 => ((impl_Item_26.f k t489 x5).bind fun t492 => (if t492 = true then (impl_CopiesRight.l1 k x3 x4 x5 x7 x13 x30 x31 (wrap64 (x32 + 1)) x474000) else (some false)))) else (if t487 ≥ 0 then (some false) else (impl_CopiesRight.l1 k x3 x4 x5 x7 x13 x30 x31 (wrap64 (x32 + 1)) x474000))))) else (none)) else (none)) else (impl_CopiesRight.l0 k x3 (wrap64 (x13 + 1)) x474000)
end
def impl_CopiesRight.f (k : Nat) (l0_0 : List (S42)) : Option (Bool) := (impl_HereOf.f k l0_0).bind fun t474 => (impl_CopiesRight.l0 k t474 0 l0_0)
set_option maxHeartbeats 8000000 in
set_option maxRecDepth 100000 in
theorem impl_CopiesRight.calls (k : Nat) (A0_0 : Option Addr) (c0_0 : Nat) (l0_0 : List (S42)) (r : Bool) (w : World) (hr0_0 : Kd.C k42 w A0_0 l0_0.length l0_0) (hc0_0 : l0_0.length ≤ c0_0) (h : impl_CopiesRight.f k l0_0 = some r) :
  Calls Try.prog 7 #[.agg #[.slice A0_0 l0_0.length c0_0]] w fun e w' => e = .returned (.bool r) ∧ Below w.heap.size w w' := by
 have hu29 := Try.underlying29
 have hu42 := Try.underlying42
 have HR0_0 := aa_ hr0_0
 have HC0_0 := aa_ hc0_0
 clear hr0_0 hc0_0
 have HB := aa_ (Below.refl w.heap.size w)
 have H : ((impl_HereOf.f k l0_0).bind fun t474 => (impl_CopiesRight.l0 k t474 0 l0_0)) = some r := h
 clear h
 obtain ⟨t474, A2, H⟩ := bindE_ H
 have H' := aa_ H
 clear H
 go_enter Try.func7, Try.ntmps7
 go_wp2_with (first | ((with_reducible refine gD_ 1 rfl ?_); refine bx_ (N := 1) (cs := #[.slice A0_0 l0_0.length c0_0]) (t := 29) ?_; intro gb473 hg w3 hbox hb; have BK473 := aa_ (hbox); have GW473 := gs_ hg; have GE473 := gs_ hg; replace HB := hbs_ hb; clear hb hbox hg; obtain ⟨hcz4, hfz4⟩ := bcf_ BK473) | ((with_reducible refine gC_ 20 rfl ?_); refine goesC_ (some 12) Try.func20 #[.agg #[.slice A0_0 l0_0.length c0_0]] ?_; (with_reducible refine (impl_HereOf.calls k _ _ l0_0 t474 _ ?side1 ?side2 A2.out).mono ?_); (case side1 => repeat (first | exact (Kd.C_below HR0_0.out HB.out) | (with_reducible refine Kd.C_alloc ?_ _) | (with_reducible refine Kd.C_drewN ?_ _) | (with_reducible refine Kd.C_drew ?_))); (case side2 => exact HC0_0.out); rintro e w5 ⟨v475, rfl, ho0, hb⟩; refine ⟨_, rfl, ?_⟩; have HO476 := aa_ (Kd.R_lower ho0 bls_); replace BK473 := bkb_ BK473 hb; replace HB := hbs_ hb; (try clear hb ho0)))
 go_loopg [13] k (fun kq v13 w' => ∃ (x13_1 : Int), v13 = .int .i64 x13_1 ∧ Aside0 (impl_CopiesRight.l0 kq t474 x13_1 l0_0 = some r) ∧ Aside0 (kq ≤ k) ∧ Aside0 (Kd.R (Kd.int .i64) 3 w' w.heap.size (fun _ => True) v475 t474) ∧ Aside0 (w'.heap[gb473]? = some (.cells #[(.slice A0_0 l0_0.length c0_0)] 29 (0, 0))) ∧ Aside0 (Below w.heap.size w w'))
 case atStart => exact ⟨(0), rf_, H', ⟨Nat.le_refl _⟩, ⟨rr_ HO476⟩, ⟨bk_ BK473⟩, ⟨bl_⟩⟩
 case round =>
  clear H'
  try clear c2
  try clear p2
  try clear hcz4
  try clear hfz4
  obtain ⟨x13_1, rfl, HA, HK1, HO_3, BK473, HB⟩ := hrel
  cases gk with
  | zero => exact absurd HA.out (by simp [impl_CopiesRight.l0])
  | succ k1 =>
   have H := HA.out
   clear HA
   simp only [impl_CopiesRight.l0] at H
   by_cases c6 : x13_1 < 256
   ·rw [if_pos c6] at H
    have c6b0 : decide (x13_1 < 256) = true := decide_eq_true c6
    clear c6
    obtain ⟨⟨t477, t480⟩, A7, H⟩ := bindE_ H
    (try dsimp only at H)
    by_cases c8 : t480 = true
    ·subst c8
     replace H := ite_t_ H
     obtain ⟨t481, A9, H⟩ := bindE_ H
     obtain ⟨t482, A10, H⟩ := bindE_ H
     have H' := aa_ H
     clear H
     have hcz11 := blk_cell BK473.out
     have hfz11 := blk_frozen BK473.out
     try go_wp2_with (first | ((with_reducible refine gC_ 21 rfl ?_); refine goesC_ (some 19) Try.func21 #[.agg #[.slice A0_0 l0_0.length c0_0], .int .i64 x13_1] ?_; (with_reducible refine (impl_everyOf.calls k1 _ _ l0_0 x13_1 t477 true _ ?side1 ?side2 A7.out).mono ?_); (case side1 => repeat (first | exact (Kd.C_below HR0_0.out HB.out) | (with_reducible refine Kd.C_alloc ?_ _) | (with_reducible refine Kd.C_drewN ?_ _) | (with_reducible refine Kd.C_drew ?_))); (case side2 => exact HC0_0.out); rintro e w12 ⟨v478, rfl, ho0, hb⟩; refine ⟨_, rfl, ?_⟩; replace HO_3 := hob_ HO_3 hb; have HO479 := aa_ (Kd.R_lower ho0 bls_); replace BK473 := bkb_ BK473 hb; replace HB := hbs_ hb; (try clear hb ho0)))
     replace HO_3 := aa_ (Kd.R_drew HO_3.out)
     replace HO479 := aa_ (Kd.R_drew HO479.out)
     replace BK473 := aa_ (blk_drew BK473.out)
     replace HB := aa_ (below_drew1 HB.out)
     obtain ⟨Ao14, co14, eo14⟩ := Kd.R_slice HO_3.out
     (first | subst eo14 | (injection eo14 with f1_ f2_ f3_; have f4_ := f1_.symm; have f5_ := f3_.symm; clear f1_ f2_ f3_; subst f4_; subst f5_))
     refine start_ (n := 6) (S := fun w' => w'.cell? ⟨gb473, 0, none⟩ = some (.slice A0_0 l0_0.length c0_0)) (ds := []) (ba_ 6 0) (by kernel_rfl) rfl rfl ((blk_cell BK473.out 0).trans rfl) (fun hHeld => ?_)
     generalize w12.drew = w13 at HO_3 HO479 BK473 HB hHeld ⊢
     refine pure_ (i := 1) (N := some 25) (v := ?_) (a' := ?_) (ba_ 6 2) rfl rfl (by kernel_rfl) (fun _ _ _ h => h) (Or.inl ⟨by rfl, ?_⟩) ?_ ?_
     rotate_left
     ·intro w'
      go_simp
      with_reducible rfl
     rotate_left
     ·simp only [Act.put, List.setIfInBounds_toArray, List.set_cons_zero, List.set_cons_succ, i64_w, i32_w]
      rfl
     refine pure_ (i := 2) (N := some 26) (v := ?_) (a' := ?_) (ba_ 6 6) rfl rfl (by kernel_rfl) (fun _ _ _ h => h) (Or.inl ⟨by rfl, ?_⟩) ?_ ?_
     rotate_left
     ·intro w'
      go_simp
      with_reducible rfl
     rotate_left
     ·simp only [Act.put, List.setIfInBounds_toArray, List.set_cons_zero, List.set_cons_succ, i64_w, i32_w]
      rfl
     refine take_ (i := 0) (N := some 24) (v := ?_) (a' := ?_) (ba_ 6 7) rfl rfl (by kernel_rfl) (fun _ _ _ h => h) (Or.inl ⟨by rfl, ?_⟩) hHeld ?_ ?_
     rotate_left
     ·intro w' s0
      go_simp
      with_reducible rfl
     rotate_left
     ·simp only [Act.put, List.setIfInBounds_toArray, List.set_cons_zero, List.set_cons_succ, i64_w, i32_w]
      rfl
     refine one_ (i := 3) (N := some 27) (ba_ 6 15) rfl rfl (by kernel_rfl) (by decide) (fun K hK => ?_)
     refine goes_ Try.func23 (by kernel_rfl) rfl #[.slice Ao14 t474.length co14, .int .i64 x13_1] (by rfl) rfl rfl (by (try simp only [List.map_toArray, List.map_cons, List.map_nil]); first | done | rfl | (simp only [List.length_drop, List.length_take]; rfl)) ?_
     with_reducible refine (impl_OwnerOf.calls k1 _ _ t474 x13_1 t481 _ ?side1 ?side2 A9.out).mono ?_
     (case side1 => repeat (first | exact (Kd.R_reads' HO_3.out).2.2 | (with_reducible refine Kd.C_alloc ?_ _) | (with_reducible refine Kd.C_drewN ?_ _) | (with_reducible refine Kd.C_drew ?_)))
     (case side2 => exact (Kd.R_reads' HO_3.out).2.1)
     rintro e w' ⟨rfl, ⟨nd, rfl⟩⟩
     refine ⟨_, rfl, ?_⟩
     refine hK.out _ _ ((blk_cell BK473.out 0).trans rfl) (fun hHeld => ?_)
     clear hK K
     refine norm_ (a' := ?_) ?_ ?_
     rotate_left
     ·show Act.put _ (some 27) _ = _
      simp only [Act.put, List.setIfInBounds_toArray, List.set_cons_zero, List.set_cons_succ, i64_w, i32_w]
      rfl
     refine one_ (i := 4) (N := some 28) (ba_ 6 31) rfl rfl (by kernel_rfl) (by decide) (fun K hK => ?_)
     refine goes_ Try.func22 (by kernel_rfl) rfl #[.agg #[.slice A0_0 l0_0.length c0_0], .int .i64 t481] (by rfl) rfl rfl (by (try simp only [List.map_toArray, List.map_cons, List.map_nil]); first | done | rfl | (simp only [List.length_drop, List.length_take]; rfl)) ?_
     with_reducible refine (impl_HoldersOf.calls k1 _ _ l0_0 t481 t482 _ ?side1 ?side2 A10.out).mono ?_
     (case side1 => repeat (first | exact (Kd.C_below HR0_0.out bl_) | (with_reducible refine Kd.C_alloc ?_ _) | (with_reducible refine Kd.C_drewN ?_ _) | (with_reducible refine Kd.C_drew ?_)))
     (case side2 => exact HC0_0.out)
     rintro e w15 ⟨v483, rfl, ho0, hb⟩
     refine ⟨_, rfl, ?_⟩
     replace HO479 := hob_ HO479 hb
     have HO484 := aa_ (Kd.R_lower (Kd.R_new' ho0 (Kd.R_lt (rr_ HO_3))) bls_)
     replace HO_3 := aa_ (Kd.R_elder' (rr_ HO_3) (Kd.R_base ho0) hb)
     replace BK473 := bkb_ BK473 hb
     replace HB := hbs_ hb
     (try clear hb)
     (try clear hb2)
     (try clear hk)
     (try clear hi)
     (try clear ho0)
     refine hK.out _ _ ((blk_cell BK473.out 0).trans rfl) (fun hHeld => ?_)
     clear hK K
     refine norm_ (a' := ?_) ?_ ?_
     rotate_left
     ·show Act.put _ (some 28) _ = _
      simp only [Act.put, List.setIfInBounds_toArray, List.set_cons_zero, List.set_cons_succ, i64_w, i32_w]
      rfl
     refine pure_ (i := 5) (N := some 7) (v := ?_) (a' := ?_) (ba_ 6 63) rfl rfl (by kernel_rfl) (fun _ _ _ h => h) (Or.inl ⟨by rfl, ?_⟩) ?_ ?_
     rotate_left
     ·intro w'
      go_simp
      with_reducible rfl
     rotate_left
     ·simp only [Act.put, List.setIfInBounds_toArray, List.set_cons_zero, List.set_cons_succ, i64_w, i32_w]
      rfl
     refine done_ (by kernel_rfl) ?_
     have hcz16 := blk_cell BK473.out
     have hfz16 := blk_frozen BK473.out
     try go_wp2
     go_loopg [32] k1 (fun kq v32 w' => ∃ (x32_2 : Int), v32 = .int .i64 x32_2 ∧ Aside0 (impl_CopiesRight.l1 kq t474 x13_1 t477 t482 x13_1 l0_0 (l0_0.length : Int) x32_2 l0_0 = some r) ∧ Aside0 (kq ≤ k1) ∧ Aside0 (Kd.R (Kd.int .i64) 3 w' w.heap.size (fun k_ => some k_ ≠ (v483 : Value).ownBlock) (.slice Ao14 t474.length co14) t474) ∧ Aside0 (Kd.R k52 52 w' w.heap.size (fun _ => True) v478 t477) ∧ Aside0 (Kd.R (Kd.int .i64) 3 w' w.heap.size (fun k_ => some k_ ≠ ((.slice Ao14 t474.length co14) : Value).ownBlock) v483 t482) ∧ Aside0 (w'.heap[gb473]? = some (.cells #[(.slice A0_0 l0_0.length c0_0)] 29 (0, 0))) ∧ Aside0 (Below w.heap.size w w'))
     case atStart => exact ⟨(0), rf_, H', ⟨Nat.le_refl _⟩, ⟨by (with_reducible repeat (first | apply Kd.R_alloc | apply Kd.R_drewN | apply Kd.R_drew)); exact Kd.R_mono HO_3.out (fun _ hk => hk.2)⟩, ⟨rr_ HO479⟩, ⟨by (with_reducible repeat (first | apply Kd.R_alloc | apply Kd.R_drewN | apply Kd.R_drew)); exact Kd.R_mono HO484.out (fun _ hk => hk.2)⟩, ⟨bk_ BK473⟩, ⟨bl_⟩⟩
     case round =>
      clear H'
      try clear c2
      try clear p2
      try clear c6
      try clear c6b0
      try clear p6
      try clear c7
      try clear c8
      try clear hcz11
      try clear hcz16
      try clear hcz4
      try clear hfz11
      try clear hfz16
      try clear hfz4
      try clear p2
      obtain ⟨x32_2, rfl, HA, HK2, HO_3, HO_5, HO_7, BK473, HB⟩ := hrel
      cases gk with
      | zero => exact absurd HA.out (by simp [impl_CopiesRight.l1])
      | succ k2 =>
       have H := HA.out
       clear HA
       simp only [impl_CopiesRight.l1] at H
       by_cases c17 : x32_2 < (l0_0.length : Int)
       ·rw [if_pos c17] at H
        have c17b0 : decide (x32_2 < (l0_0.length : Int)) = true := decide_eq_true c17
        clear c17
        obtain ⟨c18b0, H⟩ := ifd_ H
        obtain ⟨c19b0, H⟩ := ifd_ H
        obtain ⟨t487, A20, H⟩ := bindE_ H
        obtain ⟨t488, A21, H⟩ := bindE_ H
        by_cases c22 : t488 = true
        ·subst c22
         replace H := ite_t_ H
         obtain ⟨t489, A23, H⟩ := bindE_ H
         obtain ⟨t492, A24, H⟩ := bindE_ H
         by_cases c25 : t492 = true
         ·subst c25
          replace H := ite_t_ H
          have H' := aa_ H
          clear H
          have p485 : 0 ≤ (x32_2 : Int) := od_
          have q485 : x32_2 < (l0_0.length : Int) := od_
          obtain ⟨ad485, A485_3, c485_3, A485_4, c485_4, A485_5, c485_5, e485, hx485_0, hx485_1, hx485_2, hx485_3, hx485_4, hx485_5, hl485_3, hi485_3, hl485_4, hi485_4, hl485_5, hi485_5⟩ := at_T42 HR0_0.out x32_2 p485 q485
          cases e485
          replace hx485_0 := cb_ HB hx485_0
          replace hx485_1 := cb_ HB hx485_1
          replace hx485_2 := cb_ HB hx485_2
          replace hx485_3 := cb_ HB hx485_3
          replace hx485_4 := cb_ HB hx485_4
          replace hx485_5 := cb_ HB hx485_5
          have HR485_3 := aa_ hi485_3
          have HC485_3 := aa_ hl485_3
          clear hi485_3 hl485_3
          have HR485_4 := aa_ hi485_4
          have HC485_4 := aa_ hl485_4
          clear hi485_4 hl485_4
          have HR485_5 := aa_ hi485_5
          have HC485_5 := aa_ hl485_5
          clear hi485_5 hl485_5
          replace p485 := eq_true p485
          replace q485 := eq_true q485
          go_wp2_with (first | ((with_reducible refine gD_ 9 rfl ?_); refine bx_ (N := 9) (cs := #[.int .i64 0, .bool false, .int .i64 0, .slice none 0 0, .slice none 0 0, .slice none 0 0]) (t := 42) ?_; intro gb486 hg w26 hbox hb; replace HO_3 := hob_ HO_3 hb; replace HO_5 := hob_ HO_5 hb; replace HO_7 := hob_ HO_7 hb; have BK486 := aa_ (hbox); have GW486 := gs_ hg; have GE486 := gs_ hg; replace HB := hbs_ hb; have NB473_486 := nl_ hg BK473; have NB486_473 := nr_ hg BK473; replace BK473 := bkb_ BK473 hb; clear hb hbox hg; have hnb27 := NB486_473.out; have hnc27 := NB473_486.out; obtain ⟨hcz28, hfz28⟩ := bcf_ BK486) | ((with_reducible refine gC_ 24 rfl ?_); refine goesC_ (some 38) Try.func24 #[.agg #[.int .i64 ((rd_T42 l0_0 x32_2).f0), .bool ((rd_T42 l0_0 x32_2).f1), .int .i64 ((rd_T42 l0_0 x32_2).f2), .slice A485_3 ((rd_T42 l0_0 x32_2).f3).length c485_3, .slice A485_4 ((rd_T42 l0_0 x32_2).f4).length c485_4, .slice A485_5 ((rd_T42 l0_0 x32_2).f5).length c485_5], .int .i64 x13_1] ?_; (with_reducible refine (impl_shelfAt.calls k2 ((rd_T42 l0_0 x32_2).f0) ((rd_T42 l0_0 x32_2).f1) ((rd_T42 l0_0 x32_2).f2) _ _ ((rd_T42 l0_0 x32_2).f3) _ _ ((rd_T42 l0_0 x32_2).f4) _ _ ((rd_T42 l0_0 x32_2).f5) x13_1 t487 _ ?side1 ?side2 ?side3 ?side4 ?side5 ?side6 A20.out).mono ?_); (case side1 => exact Kd.C_below HR485_3.out bl_); (case side2 => exact HC485_3.out); (case side3 => exact Kd.C_below HR485_4.out bl_); (case side4 => exact HC485_4.out); (case side5 => exact Kd.C_below HR485_5.out bl_); (case side6 => exact HC485_5.out); rintro e w29 ⟨rfl, hb⟩; refine ⟨_, rfl, ?_⟩; replace HO_3 := aa_ (Kd.R_below (by (with_reducible repeat (first | apply Kd.R_alloc | apply Kd.R_drewN | apply Kd.R_drew)); exact (Kd.R_mono (fr6_ (Kd.R_types HO_3.out BK486.out (by decide)) (fun _ hk => hk.2)) (fun _ h_ => h_.1))) hb); replace HO_5 := aa_ (Kd.R_below (by (with_reducible repeat (first | apply Kd.R_alloc | apply Kd.R_drewN | apply Kd.R_drew)); exact (Kd.R_mono (fr6_ (Kd.R_types HO_5.out BK486.out (by decide)) (fun _ hk => hk.2)) (fun _ h_ => h_.1))) hb); replace HO_7 := aa_ (Kd.R_below (by (with_reducible repeat (first | apply Kd.R_alloc | apply Kd.R_drewN | apply Kd.R_drew)); exact (Kd.R_mono (fr6_ (Kd.R_types HO_7.out BK486.out (by decide)) (fun _ hk => hk.2)) (fun _ h_ => h_.1))) hb); replace BK473 := aa_ (blk_below (g := gb473) (o := .cells #[.slice (some ad485) l0_0.length c0_0] 29 (0, 0)) (bk_ BK473) hb); replace BK486 := aa_ (blk_below (g := gb486) (o := .cells #[.int .i64 ((rd_T42 l0_0 x32_2).f0), .bool ((rd_T42 l0_0 x32_2).f1), .int .i64 ((rd_T42 l0_0 x32_2).f2), .slice A485_3 ((rd_T42 l0_0 x32_2).f3).length c485_3, .slice A485_4 ((rd_T42 l0_0 x32_2).f4).length c485_4, .slice A485_5 ((rd_T42 l0_0 x32_2).f5).length c485_5] 42 (0, 0)) (bk_ BK486) hb); replace HB := hbs_ hb; clear hb; obtain ⟨hcz30, hfz30⟩ := bcf_ BK486; obtain ⟨Ao31, co31, eo31⟩ := Kd.R_slice HO_7.out; subst eo31) | ((with_reducible refine gC_ 25 rfl ?_); refine goesC_ (some 44) Try.func25 #[.slice Ao31 t482.length co31, .int .i64 ((rd_T42 l0_0 x32_2).f0)] ?_; (with_reducible refine (slices_Contains_int_int.calls k2 _ _ t482 ((rd_T42 l0_0 x32_2).f0) true _ ?side1 ?side2 A21.out).mono ?_); (case side1 => repeat (first | exact (Kd.R_reads' HO_7.out).2.2 | (with_reducible refine Kd.C_alloc ?_ _) | (with_reducible refine Kd.C_drewN ?_ _) | (with_reducible refine Kd.C_drew ?_))); (case side2 => exact (Kd.R_reads' HO_7.out).2.1); rintro e w' ⟨rfl, ⟨nd, rfl⟩⟩; refine ⟨_, rfl, ?_⟩) | ((with_reducible refine gC_ 27 rfl ?_); refine goesC_ (some 47) Try.func27 #[.agg #[.int .i64 ((rd_T42 l0_0 x32_2).f0), .bool ((rd_T42 l0_0 x32_2).f1), .int .i64 ((rd_T42 l0_0 x32_2).f2), .slice A485_3 ((rd_T42 l0_0 x32_2).f3).length c485_3, .slice A485_4 ((rd_T42 l0_0 x32_2).f4).length c485_4, .slice A485_5 ((rd_T42 l0_0 x32_2).f5).length c485_5], .int .i64 x13_1] ?_; (with_reducible refine (impl_ShelfOf.calls k2 ((rd_T42 l0_0 x32_2).f0) ((rd_T42 l0_0 x32_2).f1) ((rd_T42 l0_0 x32_2).f2) _ _ ((rd_T42 l0_0 x32_2).f3) _ _ ((rd_T42 l0_0 x32_2).f4) _ _ ((rd_T42 l0_0 x32_2).f5) x13_1 t489 _ ?side1 ?side2 ?side3 ?side4 ?side5 ?side6 A23.out).mono ?_); (case side1 => repeat (first | exact (Kd.C_below HR485_3.out bl_) | (with_reducible refine Kd.C_alloc ?_ _) | (with_reducible refine Kd.C_drewN ?_ _) | (with_reducible refine Kd.C_drew ?_))); (case side2 => exact HC485_3.out); (case side3 => repeat (first | exact (Kd.C_below HR485_4.out bl_) | (with_reducible refine Kd.C_alloc ?_ _) | (with_reducible refine Kd.C_drewN ?_ _) | (with_reducible refine Kd.C_drew ?_))); (case side4 => exact HC485_4.out); (case side5 => repeat (first | exact (Kd.C_below HR485_5.out bl_) | (with_reducible refine Kd.C_alloc ?_ _) | (with_reducible refine Kd.C_drewN ?_ _) | (with_reducible refine Kd.C_drew ?_))); (case side6 => exact HC485_5.out); rintro e w32 ⟨v490, rfl, ho0, hb⟩; refine ⟨_, rfl, ?_⟩; replace HO_3 := hob_ HO_3 hb; replace HO_7 := hob_ HO_7 hb; have HO491 := aa_ (Kd.R_lower (Kd.R_new' ho0 (Kd.R_lt (rr_ HO_5))) bls_); replace HO_5 := aa_ (Kd.R_elder' (rr_ HO_5) (Kd.R_base ho0) hb); replace BK473 := bkb_ BK473 hb; replace BK486 := bkb_ BK486 hb; replace HB := hbs_ hb; (try clear hb ho0); obtain ⟨Ao33, co33, eo33⟩ := Kd.R_slice HO491.out; subst eo33; obtain ⟨Ao34, co34, eo34⟩ := Kd.R_slice HO_5.out; subst eo34) | ((with_reducible refine gC_ 26 rfl ?_); refine goesC_ (some 49) Try.func26 #[.slice Ao33 t489.length co33, .slice Ao34 t477.length co34] ?_; (with_reducible refine (impl_Item_26.calls k2 _ _ t489 _ _ t477 true _ ?side1 ?side2 ?side3 ?side4 A24.out).mono ?_); (case side1 => repeat (first | exact (Kd.R_reads' HO491.out).2.2 | (with_reducible refine Kd.C_alloc ?_ _) | (with_reducible refine Kd.C_drewN ?_ _) | (with_reducible refine Kd.C_drew ?_))); (case side2 => exact (Kd.R_reads' HO491.out).2.1); (case side3 => repeat (first | exact (Kd.R_reads' HO_5.out).2.2 | (with_reducible refine Kd.C_alloc ?_ _) | (with_reducible refine Kd.C_drewN ?_ _) | (with_reducible refine Kd.C_drew ?_))); (case side4 => exact (Kd.R_reads' HO_5.out).2.1); rintro e w' ⟨rfl, ⟨nd, rfl⟩⟩; refine ⟨_, rfl, ?_⟩))
          go_roundg k2
          case measure => have := HK1.out; have := HK2.out; omega
          case rel => exact ⟨(wrap64 (x32_2 + 1)), rf_, H', ⟨by have := HK1.out; have := HK2.out; omega⟩, ⟨rr_ HO_3⟩, ⟨by (with_reducible repeat (first | apply Kd.R_alloc | apply Kd.R_drewN | apply Kd.R_drew)); exact Kd.R_mono HO_5.out (fun _ hk => trivial)⟩, ⟨rr_ HO_7⟩, ⟨bk_ BK473⟩, ⟨bl_⟩⟩
         ·replace c25 := Bool.eq_false_iff.mpr c25
          subst c25
          replace H := ite_f_ H
          obtain rfl := Option.some.inj H
          have p485 : 0 ≤ (x32_2 : Int) := od_
          have q485 : x32_2 < (l0_0.length : Int) := od_
          obtain ⟨ad485, A485_3, c485_3, A485_4, c485_4, A485_5, c485_5, e485, hx485_0, hx485_1, hx485_2, hx485_3, hx485_4, hx485_5, hl485_3, hi485_3, hl485_4, hi485_4, hl485_5, hi485_5⟩ := at_T42 HR0_0.out x32_2 p485 q485
          cases e485
          replace hx485_0 := cb_ HB hx485_0
          replace hx485_1 := cb_ HB hx485_1
          replace hx485_2 := cb_ HB hx485_2
          replace hx485_3 := cb_ HB hx485_3
          replace hx485_4 := cb_ HB hx485_4
          replace hx485_5 := cb_ HB hx485_5
          have HR485_3 := aa_ hi485_3
          have HC485_3 := aa_ hl485_3
          clear hi485_3 hl485_3
          have HR485_4 := aa_ hi485_4
          have HC485_4 := aa_ hl485_4
          clear hi485_4 hl485_4
          have HR485_5 := aa_ hi485_5
          have HC485_5 := aa_ hl485_5
          clear hi485_5 hl485_5
          replace p485 := eq_true p485
          replace q485 := eq_true q485
          go_wp2_with (first | ((with_reducible refine gD_ 9 rfl ?_); refine bx_ (N := 9) (cs := #[.int .i64 0, .bool false, .int .i64 0, .slice none 0 0, .slice none 0 0, .slice none 0 0]) (t := 42) ?_; intro gb486 hg w35 hbox hb; replace HO_3 := hob_ HO_3 hb; replace HO_5 := hob_ HO_5 hb; replace HO_7 := hob_ HO_7 hb; have BK486 := aa_ (hbox); have GW486 := gs_ hg; have GE486 := gs_ hg; replace HB := hbs_ hb; have NB473_486 := nl_ hg BK473; have NB486_473 := nr_ hg BK473; replace BK473 := bkb_ BK473 hb; clear hb hbox hg; have hnb36 := NB486_473.out; have hnc36 := NB473_486.out; obtain ⟨hcz37, hfz37⟩ := bcf_ BK486) | ((with_reducible refine gC_ 24 rfl ?_); refine goesC_ (some 38) Try.func24 #[.agg #[.int .i64 ((rd_T42 l0_0 x32_2).f0), .bool ((rd_T42 l0_0 x32_2).f1), .int .i64 ((rd_T42 l0_0 x32_2).f2), .slice A485_3 ((rd_T42 l0_0 x32_2).f3).length c485_3, .slice A485_4 ((rd_T42 l0_0 x32_2).f4).length c485_4, .slice A485_5 ((rd_T42 l0_0 x32_2).f5).length c485_5], .int .i64 x13_1] ?_; (with_reducible refine (impl_shelfAt.calls k2 ((rd_T42 l0_0 x32_2).f0) ((rd_T42 l0_0 x32_2).f1) ((rd_T42 l0_0 x32_2).f2) _ _ ((rd_T42 l0_0 x32_2).f3) _ _ ((rd_T42 l0_0 x32_2).f4) _ _ ((rd_T42 l0_0 x32_2).f5) x13_1 t487 _ ?side1 ?side2 ?side3 ?side4 ?side5 ?side6 A20.out).mono ?_); (case side1 => exact Kd.C_below HR485_3.out bl_); (case side2 => exact HC485_3.out); (case side3 => exact Kd.C_below HR485_4.out bl_); (case side4 => exact HC485_4.out); (case side5 => exact Kd.C_below HR485_5.out bl_); (case side6 => exact HC485_5.out); rintro e w38 ⟨rfl, hb⟩; refine ⟨_, rfl, ?_⟩; replace HO_3 := aa_ (Kd.R_below (by (with_reducible repeat (first | apply Kd.R_alloc | apply Kd.R_drewN | apply Kd.R_drew)); exact (Kd.R_mono (fr6_ (Kd.R_types HO_3.out BK486.out (by decide)) (fun _ hk => hk.2)) (fun _ h_ => h_.1))) hb); replace HO_5 := aa_ (Kd.R_below (by (with_reducible repeat (first | apply Kd.R_alloc | apply Kd.R_drewN | apply Kd.R_drew)); exact (Kd.R_mono (fr6_ (Kd.R_types HO_5.out BK486.out (by decide)) (fun _ hk => hk.2)) (fun _ h_ => h_.1))) hb); replace HO_7 := aa_ (Kd.R_below (by (with_reducible repeat (first | apply Kd.R_alloc | apply Kd.R_drewN | apply Kd.R_drew)); exact (Kd.R_mono (fr6_ (Kd.R_types HO_7.out BK486.out (by decide)) (fun _ hk => hk.2)) (fun _ h_ => h_.1))) hb); replace BK473 := aa_ (blk_below (g := gb473) (o := .cells #[.slice (some ad485) l0_0.length c0_0] 29 (0, 0)) (bk_ BK473) hb); replace BK486 := aa_ (blk_below (g := gb486) (o := .cells #[.int .i64 ((rd_T42 l0_0 x32_2).f0), .bool ((rd_T42 l0_0 x32_2).f1), .int .i64 ((rd_T42 l0_0 x32_2).f2), .slice A485_3 ((rd_T42 l0_0 x32_2).f3).length c485_3, .slice A485_4 ((rd_T42 l0_0 x32_2).f4).length c485_4, .slice A485_5 ((rd_T42 l0_0 x32_2).f5).length c485_5] 42 (0, 0)) (bk_ BK486) hb); replace HB := hbs_ hb; clear hb; obtain ⟨hcz39, hfz39⟩ := bcf_ BK486; obtain ⟨Ao40, co40, eo40⟩ := Kd.R_slice HO_7.out; subst eo40) | ((with_reducible refine gC_ 25 rfl ?_); refine goesC_ (some 44) Try.func25 #[.slice Ao40 t482.length co40, .int .i64 ((rd_T42 l0_0 x32_2).f0)] ?_; (with_reducible refine (slices_Contains_int_int.calls k2 _ _ t482 ((rd_T42 l0_0 x32_2).f0) true _ ?side1 ?side2 A21.out).mono ?_); (case side1 => repeat (first | exact (Kd.R_reads' HO_7.out).2.2 | (with_reducible refine Kd.C_alloc ?_ _) | (with_reducible refine Kd.C_drewN ?_ _) | (with_reducible refine Kd.C_drew ?_))); (case side2 => exact (Kd.R_reads' HO_7.out).2.1); rintro e w' ⟨rfl, ⟨nd, rfl⟩⟩; refine ⟨_, rfl, ?_⟩) | ((with_reducible refine gC_ 27 rfl ?_); refine goesC_ (some 47) Try.func27 #[.agg #[.int .i64 ((rd_T42 l0_0 x32_2).f0), .bool ((rd_T42 l0_0 x32_2).f1), .int .i64 ((rd_T42 l0_0 x32_2).f2), .slice A485_3 ((rd_T42 l0_0 x32_2).f3).length c485_3, .slice A485_4 ((rd_T42 l0_0 x32_2).f4).length c485_4, .slice A485_5 ((rd_T42 l0_0 x32_2).f5).length c485_5], .int .i64 x13_1] ?_; (with_reducible refine (impl_ShelfOf.calls k2 ((rd_T42 l0_0 x32_2).f0) ((rd_T42 l0_0 x32_2).f1) ((rd_T42 l0_0 x32_2).f2) _ _ ((rd_T42 l0_0 x32_2).f3) _ _ ((rd_T42 l0_0 x32_2).f4) _ _ ((rd_T42 l0_0 x32_2).f5) x13_1 t489 _ ?side1 ?side2 ?side3 ?side4 ?side5 ?side6 A23.out).mono ?_); (case side1 => repeat (first | exact (Kd.C_below HR485_3.out bl_) | (with_reducible refine Kd.C_alloc ?_ _) | (with_reducible refine Kd.C_drewN ?_ _) | (with_reducible refine Kd.C_drew ?_))); (case side2 => exact HC485_3.out); (case side3 => repeat (first | exact (Kd.C_below HR485_4.out bl_) | (with_reducible refine Kd.C_alloc ?_ _) | (with_reducible refine Kd.C_drewN ?_ _) | (with_reducible refine Kd.C_drew ?_))); (case side4 => exact HC485_4.out); (case side5 => repeat (first | exact (Kd.C_below HR485_5.out bl_) | (with_reducible refine Kd.C_alloc ?_ _) | (with_reducible refine Kd.C_drewN ?_ _) | (with_reducible refine Kd.C_drew ?_))); (case side6 => exact HC485_5.out); rintro e w41 ⟨v490, rfl, ho0, hb⟩; refine ⟨_, rfl, ?_⟩; replace HO_3 := hob_ HO_3 hb; replace HO_7 := hob_ HO_7 hb; have HO491 := aa_ (Kd.R_lower (Kd.R_new' ho0 (Kd.R_lt (rr_ HO_5))) bls_); replace HO_5 := aa_ (Kd.R_elder' (rr_ HO_5) (Kd.R_base ho0) hb); replace BK473 := bkb_ BK473 hb; replace BK486 := bkb_ BK486 hb; replace HB := hbs_ hb; (try clear hb ho0); obtain ⟨Ao42, co42, eo42⟩ := Kd.R_slice HO491.out; subst eo42; obtain ⟨Ao43, co43, eo43⟩ := Kd.R_slice HO_5.out; subst eo43) | ((with_reducible refine gC_ 26 rfl ?_); refine goesC_ (some 49) Try.func26 #[.slice Ao42 t489.length co42, .slice Ao43 t477.length co43] ?_; (with_reducible refine (impl_Item_26.calls k2 _ _ t489 _ _ t477 false _ ?side1 ?side2 ?side3 ?side4 A24.out).mono ?_); (case side1 => repeat (first | exact (Kd.R_reads' HO491.out).2.2 | (with_reducible refine Kd.C_alloc ?_ _) | (with_reducible refine Kd.C_drewN ?_ _) | (with_reducible refine Kd.C_drew ?_))); (case side2 => exact (Kd.R_reads' HO491.out).2.1); (case side3 => repeat (first | exact (Kd.R_reads' HO_5.out).2.2 | (with_reducible refine Kd.C_alloc ?_ _) | (with_reducible refine Kd.C_drewN ?_ _) | (with_reducible refine Kd.C_drew ?_))); (case side4 => exact (Kd.R_reads' HO_5.out).2.1); rintro e w' ⟨rfl, ⟨nd, rfl⟩⟩; refine ⟨_, rfl, ?_⟩))
          go_ret
          exact ⟨eq_, bl_⟩
        ·replace c22 := Bool.eq_false_iff.mpr c22
         subst c22
         replace H := ite_f_ H
         by_cases c44 : t487 ≥ 0
         ·rw [if_pos c44] at H
          have c44b0 : decide (0 ≤ t487) = true := decide_eq_true c44
          clear c44
          obtain rfl := Option.some.inj H
          have p485 : 0 ≤ (x32_2 : Int) := od_
          have q485 : x32_2 < (l0_0.length : Int) := od_
          obtain ⟨ad485, A485_3, c485_3, A485_4, c485_4, A485_5, c485_5, e485, hx485_0, hx485_1, hx485_2, hx485_3, hx485_4, hx485_5, hl485_3, hi485_3, hl485_4, hi485_4, hl485_5, hi485_5⟩ := at_T42 HR0_0.out x32_2 p485 q485
          cases e485
          replace hx485_0 := cb_ HB hx485_0
          replace hx485_1 := cb_ HB hx485_1
          replace hx485_2 := cb_ HB hx485_2
          replace hx485_3 := cb_ HB hx485_3
          replace hx485_4 := cb_ HB hx485_4
          replace hx485_5 := cb_ HB hx485_5
          have HR485_3 := aa_ hi485_3
          have HC485_3 := aa_ hl485_3
          clear hi485_3 hl485_3
          have HR485_4 := aa_ hi485_4
          have HC485_4 := aa_ hl485_4
          clear hi485_4 hl485_4
          have HR485_5 := aa_ hi485_5
          have HC485_5 := aa_ hl485_5
          clear hi485_5 hl485_5
          replace p485 := eq_true p485
          replace q485 := eq_true q485
          go_wp2_with (first | ((with_reducible refine gD_ 9 rfl ?_); refine bx_ (N := 9) (cs := #[.int .i64 0, .bool false, .int .i64 0, .slice none 0 0, .slice none 0 0, .slice none 0 0]) (t := 42) ?_; intro gb486 hg w45 hbox hb; replace HO_3 := hob_ HO_3 hb; replace HO_5 := hob_ HO_5 hb; replace HO_7 := hob_ HO_7 hb; have BK486 := aa_ (hbox); have GW486 := gs_ hg; have GE486 := gs_ hg; replace HB := hbs_ hb; have NB473_486 := nl_ hg BK473; have NB486_473 := nr_ hg BK473; replace BK473 := bkb_ BK473 hb; clear hb hbox hg; have hnb46 := NB486_473.out; have hnc46 := NB473_486.out; obtain ⟨hcz47, hfz47⟩ := bcf_ BK486) | ((with_reducible refine gC_ 24 rfl ?_); refine goesC_ (some 38) Try.func24 #[.agg #[.int .i64 ((rd_T42 l0_0 x32_2).f0), .bool ((rd_T42 l0_0 x32_2).f1), .int .i64 ((rd_T42 l0_0 x32_2).f2), .slice A485_3 ((rd_T42 l0_0 x32_2).f3).length c485_3, .slice A485_4 ((rd_T42 l0_0 x32_2).f4).length c485_4, .slice A485_5 ((rd_T42 l0_0 x32_2).f5).length c485_5], .int .i64 x13_1] ?_; (with_reducible refine (impl_shelfAt.calls k2 ((rd_T42 l0_0 x32_2).f0) ((rd_T42 l0_0 x32_2).f1) ((rd_T42 l0_0 x32_2).f2) _ _ ((rd_T42 l0_0 x32_2).f3) _ _ ((rd_T42 l0_0 x32_2).f4) _ _ ((rd_T42 l0_0 x32_2).f5) x13_1 t487 _ ?side1 ?side2 ?side3 ?side4 ?side5 ?side6 A20.out).mono ?_); (case side1 => exact Kd.C_below HR485_3.out bl_); (case side2 => exact HC485_3.out); (case side3 => exact Kd.C_below HR485_4.out bl_); (case side4 => exact HC485_4.out); (case side5 => exact Kd.C_below HR485_5.out bl_); (case side6 => exact HC485_5.out); rintro e w48 ⟨rfl, hb⟩; refine ⟨_, rfl, ?_⟩; replace HO_3 := aa_ (Kd.R_below (by (with_reducible repeat (first | apply Kd.R_alloc | apply Kd.R_drewN | apply Kd.R_drew)); exact (Kd.R_mono (fr6_ (Kd.R_types HO_3.out BK486.out (by decide)) (fun _ hk => hk.2)) (fun _ h_ => h_.1))) hb); replace HO_5 := aa_ (Kd.R_below (by (with_reducible repeat (first | apply Kd.R_alloc | apply Kd.R_drewN | apply Kd.R_drew)); exact (Kd.R_mono (fr6_ (Kd.R_types HO_5.out BK486.out (by decide)) (fun _ hk => hk.2)) (fun _ h_ => h_.1))) hb); replace HO_7 := aa_ (Kd.R_below (by (with_reducible repeat (first | apply Kd.R_alloc | apply Kd.R_drewN | apply Kd.R_drew)); exact (Kd.R_mono (fr6_ (Kd.R_types HO_7.out BK486.out (by decide)) (fun _ hk => hk.2)) (fun _ h_ => h_.1))) hb); replace BK473 := aa_ (blk_below (g := gb473) (o := .cells #[.slice (some ad485) l0_0.length c0_0] 29 (0, 0)) (bk_ BK473) hb); replace BK486 := aa_ (blk_below (g := gb486) (o := .cells #[.int .i64 ((rd_T42 l0_0 x32_2).f0), .bool ((rd_T42 l0_0 x32_2).f1), .int .i64 ((rd_T42 l0_0 x32_2).f2), .slice A485_3 ((rd_T42 l0_0 x32_2).f3).length c485_3, .slice A485_4 ((rd_T42 l0_0 x32_2).f4).length c485_4, .slice A485_5 ((rd_T42 l0_0 x32_2).f5).length c485_5] 42 (0, 0)) (bk_ BK486) hb); replace HB := hbs_ hb; clear hb; obtain ⟨hcz49, hfz49⟩ := bcf_ BK486; obtain ⟨Ao50, co50, eo50⟩ := Kd.R_slice HO_7.out; subst eo50) | ((with_reducible refine gC_ 25 rfl ?_); refine goesC_ (some 44) Try.func25 #[.slice Ao50 t482.length co50, .int .i64 ((rd_T42 l0_0 x32_2).f0)] ?_; (with_reducible refine (slices_Contains_int_int.calls k2 _ _ t482 ((rd_T42 l0_0 x32_2).f0) false _ ?side1 ?side2 A21.out).mono ?_); (case side1 => repeat (first | exact (Kd.R_reads' HO_7.out).2.2 | (with_reducible refine Kd.C_alloc ?_ _) | (with_reducible refine Kd.C_drewN ?_ _) | (with_reducible refine Kd.C_drew ?_))); (case side2 => exact (Kd.R_reads' HO_7.out).2.1); rintro e w' ⟨rfl, ⟨nd, rfl⟩⟩; refine ⟨_, rfl, ?_⟩))
          go_ret
          exact ⟨eq_, bl_⟩
         ·rw [if_neg c44] at H
          have c44b0 : decide (0 ≤ t487) = false := decide_eq_false c44
          clear c44
          have H' := aa_ H
          clear H
          have p485 : 0 ≤ (x32_2 : Int) := od_
          have q485 : x32_2 < (l0_0.length : Int) := od_
          obtain ⟨ad485, A485_3, c485_3, A485_4, c485_4, A485_5, c485_5, e485, hx485_0, hx485_1, hx485_2, hx485_3, hx485_4, hx485_5, hl485_3, hi485_3, hl485_4, hi485_4, hl485_5, hi485_5⟩ := at_T42 HR0_0.out x32_2 p485 q485
          cases e485
          replace hx485_0 := cb_ HB hx485_0
          replace hx485_1 := cb_ HB hx485_1
          replace hx485_2 := cb_ HB hx485_2
          replace hx485_3 := cb_ HB hx485_3
          replace hx485_4 := cb_ HB hx485_4
          replace hx485_5 := cb_ HB hx485_5
          have HR485_3 := aa_ hi485_3
          have HC485_3 := aa_ hl485_3
          clear hi485_3 hl485_3
          have HR485_4 := aa_ hi485_4
          have HC485_4 := aa_ hl485_4
          clear hi485_4 hl485_4
          have HR485_5 := aa_ hi485_5
          have HC485_5 := aa_ hl485_5
          clear hi485_5 hl485_5
          replace p485 := eq_true p485
          replace q485 := eq_true q485
          go_wp2_with (first | ((with_reducible refine gD_ 9 rfl ?_); refine bx_ (N := 9) (cs := #[.int .i64 0, .bool false, .int .i64 0, .slice none 0 0, .slice none 0 0, .slice none 0 0]) (t := 42) ?_; intro gb486 hg w51 hbox hb; replace HO_3 := hob_ HO_3 hb; replace HO_5 := hob_ HO_5 hb; replace HO_7 := hob_ HO_7 hb; have BK486 := aa_ (hbox); have GW486 := gs_ hg; have GE486 := gs_ hg; replace HB := hbs_ hb; have NB473_486 := nl_ hg BK473; have NB486_473 := nr_ hg BK473; replace BK473 := bkb_ BK473 hb; clear hb hbox hg; have hnb52 := NB486_473.out; have hnc52 := NB473_486.out; obtain ⟨hcz53, hfz53⟩ := bcf_ BK486) | ((with_reducible refine gC_ 24 rfl ?_); refine goesC_ (some 38) Try.func24 #[.agg #[.int .i64 ((rd_T42 l0_0 x32_2).f0), .bool ((rd_T42 l0_0 x32_2).f1), .int .i64 ((rd_T42 l0_0 x32_2).f2), .slice A485_3 ((rd_T42 l0_0 x32_2).f3).length c485_3, .slice A485_4 ((rd_T42 l0_0 x32_2).f4).length c485_4, .slice A485_5 ((rd_T42 l0_0 x32_2).f5).length c485_5], .int .i64 x13_1] ?_; (with_reducible refine (impl_shelfAt.calls k2 ((rd_T42 l0_0 x32_2).f0) ((rd_T42 l0_0 x32_2).f1) ((rd_T42 l0_0 x32_2).f2) _ _ ((rd_T42 l0_0 x32_2).f3) _ _ ((rd_T42 l0_0 x32_2).f4) _ _ ((rd_T42 l0_0 x32_2).f5) x13_1 t487 _ ?side1 ?side2 ?side3 ?side4 ?side5 ?side6 A20.out).mono ?_); (case side1 => exact Kd.C_below HR485_3.out bl_); (case side2 => exact HC485_3.out); (case side3 => exact Kd.C_below HR485_4.out bl_); (case side4 => exact HC485_4.out); (case side5 => exact Kd.C_below HR485_5.out bl_); (case side6 => exact HC485_5.out); rintro e w54 ⟨rfl, hb⟩; refine ⟨_, rfl, ?_⟩; replace HO_3 := aa_ (Kd.R_below (by (with_reducible repeat (first | apply Kd.R_alloc | apply Kd.R_drewN | apply Kd.R_drew)); exact (Kd.R_mono (fr6_ (Kd.R_types HO_3.out BK486.out (by decide)) (fun _ hk => hk.2)) (fun _ h_ => h_.1))) hb); replace HO_5 := aa_ (Kd.R_below (by (with_reducible repeat (first | apply Kd.R_alloc | apply Kd.R_drewN | apply Kd.R_drew)); exact (Kd.R_mono (fr6_ (Kd.R_types HO_5.out BK486.out (by decide)) (fun _ hk => hk.2)) (fun _ h_ => h_.1))) hb); replace HO_7 := aa_ (Kd.R_below (by (with_reducible repeat (first | apply Kd.R_alloc | apply Kd.R_drewN | apply Kd.R_drew)); exact (Kd.R_mono (fr6_ (Kd.R_types HO_7.out BK486.out (by decide)) (fun _ hk => hk.2)) (fun _ h_ => h_.1))) hb); replace BK473 := aa_ (blk_below (g := gb473) (o := .cells #[.slice (some ad485) l0_0.length c0_0] 29 (0, 0)) (bk_ BK473) hb); replace BK486 := aa_ (blk_below (g := gb486) (o := .cells #[.int .i64 ((rd_T42 l0_0 x32_2).f0), .bool ((rd_T42 l0_0 x32_2).f1), .int .i64 ((rd_T42 l0_0 x32_2).f2), .slice A485_3 ((rd_T42 l0_0 x32_2).f3).length c485_3, .slice A485_4 ((rd_T42 l0_0 x32_2).f4).length c485_4, .slice A485_5 ((rd_T42 l0_0 x32_2).f5).length c485_5] 42 (0, 0)) (bk_ BK486) hb); replace HB := hbs_ hb; clear hb; obtain ⟨hcz55, hfz55⟩ := bcf_ BK486; obtain ⟨Ao56, co56, eo56⟩ := Kd.R_slice HO_7.out; subst eo56) | ((with_reducible refine gC_ 25 rfl ?_); refine goesC_ (some 44) Try.func25 #[.slice Ao56 t482.length co56, .int .i64 ((rd_T42 l0_0 x32_2).f0)] ?_; (with_reducible refine (slices_Contains_int_int.calls k2 _ _ t482 ((rd_T42 l0_0 x32_2).f0) false _ ?side1 ?side2 A21.out).mono ?_); (case side1 => repeat (first | exact (Kd.R_reads' HO_7.out).2.2 | (with_reducible refine Kd.C_alloc ?_ _) | (with_reducible refine Kd.C_drewN ?_ _) | (with_reducible refine Kd.C_drew ?_))); (case side2 => exact (Kd.R_reads' HO_7.out).2.1); rintro e w' ⟨rfl, ⟨nd, rfl⟩⟩; refine ⟨_, rfl, ?_⟩))
          go_roundg k2
          case measure => have := HK1.out; have := HK2.out; omega
          case rel => exact ⟨(wrap64 (x32_2 + 1)), rf_, H', ⟨by have := HK1.out; have := HK2.out; omega⟩, ⟨rr_ HO_3⟩, ⟨rr_ HO_5⟩, ⟨rr_ HO_7⟩, ⟨bk_ BK473⟩, ⟨bl_⟩⟩
       ·rw [if_neg c17] at H
        have c17b0 : decide (x32_2 < (l0_0.length : Int)) = false := decide_eq_false c17
        clear c17
        have H' := aa_ H
        clear H
        go_wp2
        go_roundg k2
        case measure => have := HK1.out; have := HK2.out; omega
        case rel => exact ⟨(wrap64 (x13_1 + 1)), rf_, H', ⟨by have := HK1.out; have := HK2.out; omega⟩, ⟨by (with_reducible repeat (first | apply Kd.R_alloc | apply Kd.R_drewN | apply Kd.R_drew)); exact Kd.R_mono HO_3.out (fun _ hk => trivial)⟩, ⟨bk_ BK473⟩, ⟨bl_⟩⟩
    ·replace c8 := Bool.eq_false_iff.mpr c8
     subst c8
     replace H := ite_f_ H
     have H' := aa_ H
     clear H
     have hcz57 := blk_cell BK473.out
     have hfz57 := blk_frozen BK473.out
     go_wp2_with (first | ((with_reducible refine gC_ 21 rfl ?_); refine goesC_ (some 19) Try.func21 #[.agg #[.slice A0_0 l0_0.length c0_0], .int .i64 x13_1] ?_; (with_reducible refine (impl_everyOf.calls k1 _ _ l0_0 x13_1 t477 false _ ?side1 ?side2 A7.out).mono ?_); (case side1 => repeat (first | exact (Kd.C_below HR0_0.out HB.out) | (with_reducible refine Kd.C_alloc ?_ _) | (with_reducible refine Kd.C_drewN ?_ _) | (with_reducible refine Kd.C_drew ?_))); (case side2 => exact HC0_0.out); rintro e w58 ⟨v478, rfl, ho0, hb⟩; refine ⟨_, rfl, ?_⟩; replace HO_3 := hob_ HO_3 hb; have HO479 := aa_ (Kd.R_lower ho0 bls_); replace BK473 := bkb_ BK473 hb; replace HB := hbs_ hb; (try clear hb ho0)))
     go_roundg k1
     case measure => have := HK1.out; omega
     case rel => exact ⟨(wrap64 (x13_1 + 1)), rf_, H', ⟨by have := HK1.out; omega⟩, ⟨rr_ HO_3⟩, ⟨bk_ BK473⟩, ⟨bl_⟩⟩
   ·rw [if_neg c6] at H
    have c6b0 : decide (x13_1 < 256) = false := decide_eq_false c6
    clear c6
    obtain rfl := Option.some.inj H
    go_wp2
    go_ret
    exact ⟨eq_, bl_⟩
def laws_eqIntS.l0 : Nat → List Int → List Int → Int → Option (Bool)
 | 0, _, _, _ => none
 | k + 1, x0, x1, x5 => if x5 < (x0.length : Int) then (if 0 ≤ x5 then (if x5 < (x1.length : Int) then (if (rd x0 x5) = (rd x1 x5) then (laws_eqIntS.l0 k x0 x1 (wrap64 (x5 + 1))) else (some false)) else (none)) else (none)) else (some true)
def laws_eqIntS.f (k : Nat) (l0 : List Int) (l1 : List Int) : Option (Bool) := if (l0.length : Int) = (l1.length : Int) then (laws_eqIntS.l0 k l0 l1 0) else (some false)
set_option maxHeartbeats 8000000 in
set_option maxRecDepth 100000 in
theorem laws_eqIntS.calls (k : Nat) (A0 : Option Addr) (c0 : Nat) (l0 : List Int) (A1 : Option Addr) (c1 : Nat) (l1 : List Int) (r : Bool) (w : World) (hr0 : Kd.C (Kd.int .i64) w A0 l0.length l0) (hc0 : l0.length ≤ c0) (hr1 : Kd.C (Kd.int .i64) w A1 l1.length l1) (hc1 : l1.length ≤ c1) (h : laws_eqIntS.f k l0 l1 = some r) :
  Calls Try.prog 58 #[.slice A0 l0.length c0, .slice A1 l1.length c1] w fun e w' => e = .returned (.bool r) ∧ Drawn0 w w' := by
 have HR0 := aa_ hr0
 have HC0 := aa_ hc0
 clear hr0 hc0
 have HR1 := aa_ hr1
 have HC1 := aa_ hc1
 clear hr1 hc1
 have H : (if (l0.length : Int) = (l1.length : Int) then (laws_eqIntS.l0 k l0 l1 0) else (some false)) = some r := h
 clear h
 by_cases c3 : (l0.length : Int) = (l1.length : Int)
 ·rw [if_pos c3] at H
  have c3b0 : ((l0.length : Int) == (l1.length : Int)) = true := beq_iff_eq.mpr c3
  have c3b1 : ((l0.length : Int) != (l1.length : Int)) = false := bne_eq_false_iff_eq.mpr c3
  have c3b2 : (l0.length == l1.length) = true := by first | simpa using c3 | (simp at c3 ⊢; omega)
  clear c3
  have H' := aa_ H
  clear H
  go_enter Try.func58, Try.ntmps58
  go_wp2
  repeat (go_quiet (fail); try go_wp2)
  go_loopg [5] k (fun kq v5 w' => ∃ (x5_1 : Int), v5 = .int .i64 x5_1 ∧ Aside0 (laws_eqIntS.l0 kq l0 l1 x5_1 = some r) ∧ Aside0 (kq ≤ k) ∧ Drawn0 w w')
  case atStart => exact ⟨(0), rf_, H', ⟨Nat.le_refl _⟩, by repeat (first | exact Drawn0.refl _ | apply Drawn0.step)⟩
  case round =>
   clear H'
   try clear c1
   try clear p2
   try clear c3
   try clear c3b0
   try clear c3b1
   try clear c3b2
   obtain ⟨x5_1, rfl, HA, HK1, ⟨m1, rfl⟩⟩ := hrel
   cases gk with
   | zero => exact absurd HA.out (by simp [laws_eqIntS.l0])
   | succ k1 =>
    have H := HA.out
    clear HA
    simp only [laws_eqIntS.l0] at H
    by_cases c4 : x5_1 < (l0.length : Int)
    ·rw [if_pos c4] at H
     have c4b0 : decide (x5_1 < (l0.length : Int)) = true := decide_eq_true c4
     clear c4
     obtain ⟨c5b0, H⟩ := ifd_ H
     obtain ⟨c6b0, H⟩ := ifd_ H
     have HC7 := aa_ H
     clear H
     have p493 : 0 ≤ (x5_1 : Int) := od_
     have q493 : x5_1 < (l0.length : Int) := od_
     obtain ⟨ad493, e493, hx493_0⟩ := Kd.at_int HR0.out x5_1 p493 q493
     cases e493
     replace p493 := eq_true p493
     replace q493 := eq_true q493
     have p494 : 0 ≤ (x5_1 : Int) := od_
     have q494 : x5_1 < (l1.length : Int) := od_
     obtain ⟨ad494, e494, hx494_0⟩ := Kd.at_int HR1.out x5_1 p494 q494
     cases e494
     replace p494 := eq_true p494
     replace q494 := eq_true q494
     go_upto_if 25 with (fail)
     repeat (go_quiet (fail); go_upto_if 25 with (fail))
     have H := HC7.out
     clear HC7
     by_cases c8 : (rd l0 x5_1) = (rd l1 x5_1)
     ·rw [if_pos c8] at H
      have c8b0 : ((rd l0 x5_1) == (rd l1 x5_1)) = true := beq_iff_eq.mpr c8
      have c8b1 : ((rd l0 x5_1) != (rd l1 x5_1)) = false := bne_eq_false_iff_eq.mpr c8
      clear c8
      (first | rw [c8b0] | (simp only [i64_w, i32_w]; rw [c8b0]) | skip)
      have H' := aa_ H
      clear H
      go_wp2
      repeat (go_quiet (fail); try go_wp2)
      go_roundg k1
      case measure => have := HK1.out; omega
      case rel => exact ⟨(wrap64 (x5_1 + 1)), rf_, H', ⟨by have := HK1.out; omega⟩, by repeat (first | exact Drawn0.refl _ | apply Drawn0.step)⟩
     ·rw [if_neg c8] at H
      have c8b0 : ((rd l0 x5_1) == (rd l1 x5_1)) = false := beq_eq_false_iff_ne.mpr c8
      have c8b1 : ((rd l0 x5_1) != (rd l1 x5_1)) = true := bne_iff_ne.mpr c8
      (first | rw [c8b0] | (simp only [i64_w, i32_w]; rw [c8b0]) | skip)
      obtain rfl := Option.some.inj H
      go_wp2
      repeat (go_quiet (fail); try go_wp2)
      go_ret
      exact ⟨by first | rfl | (simp; done) | (simp [*]; done), by repeat (first | exact Drawn0.refl _ | apply Drawn0.step)⟩
    ·rw [if_neg c4] at H
     have c4b0 : decide (x5_1 < (l0.length : Int)) = false := decide_eq_false c4
     clear c4
     obtain rfl := Option.some.inj H
     go_wp2
     repeat (go_quiet (fail); try go_wp2)
     go_ret
     exact ⟨by first | rfl | (simp; done) | (simp [*]; done), by repeat (first | exact Drawn0.refl _ | apply Drawn0.step)⟩
 ·rw [if_neg c3] at H
  have c3b0 : ((l0.length : Int) == (l1.length : Int)) = false := beq_eq_false_iff_ne.mpr c3
  have c3b1 : ((l0.length : Int) != (l1.length : Int)) = true := bne_iff_ne.mpr c3
  have c3b2 : (l0.length == l1.length) = false := by first | simpa using c3 | (simp at c3 ⊢; omega)
  obtain rfl := Option.some.inj H
  go_enter Try.func58, Try.ntmps58
  go_wp2
  repeat (go_quiet (fail); try go_wp2)
  go_ret
  exact ⟨by first | rfl | (simp; done) | (simp [*]; done), by repeat (first | exact Drawn0.refl _ | apply Drawn0.step)⟩
def laws_eqItem.f (a0_0 : ByteArray) (a0_1 : Bool) (a1_0 : ByteArray) (a1_1 : Bool) : Option (Bool) := if a0_0.toList = a1_0.toList then (if (a0_1 != a1_1) = true then (some false) else (some true)) else (some false)
set_option maxHeartbeats 8000000 in
set_option maxRecDepth 100000 in
theorem laws_eqItem.calls (a0_0 : ByteArray) (a0_1 : Bool) (a1_0 : ByteArray) (a1_1 : Bool) (r : Bool) (w : World) (h : laws_eqItem.f a0_0 a0_1 a1_0 a1_1 = some r) :
  Calls Try.prog 92 #[.agg #[.string a0_0, .bool a0_1], .agg #[.string a1_0, .bool a1_1]] w fun e w' => e = .returned (.bool r) ∧ Below w.heap.size w w' := by
 have hu52 := Try.underlying52
 have HB := aa_ (Below.refl w.heap.size w)
 have H : (if a0_0.toList = a1_0.toList then (if (a0_1 != a1_1) = true then (some false) else (some true)) else (some false)) = some r := h
 clear h
 by_cases c3 : a0_0.toList = a1_0.toList
 ·rw [if_pos c3] at H
  have c3b0 : (a0_0.toList == a1_0.toList) = true := beq_iff_eq.mpr c3
  have c3b1 : (a0_0.toList != a1_0.toList) = false := bne_eq_false_iff_eq.mpr c3
  clear c3
  have HC4 := aa_ H
  clear H
  go_enter Try.func92, Try.ntmps92
  go_upto_if 14 with (first | ((with_reducible refine gD_ 2 rfl ?_); refine bx_ (N := 2) (cs := #[.string a0_0, .bool a0_1]) (t := 52) ?_; intro gb495 hg w5 hbox hb; have BK495 := aa_ (hbox); have GW495 := gs_ hg; have GE495 := gs_ hg; replace HB := hbs_ hb; clear hb hbox hg) | ((with_reducible refine gD_ 3 rfl ?_); refine bx_ (N := 3) (cs := #[.string a1_0, .bool a1_1]) (t := 52) ?_; intro gb496 hg w6 hbox hb; have BK496 := aa_ (hbox); have GW496 := gs_ hg; have GE496 := gs_ hg; replace HB := hbs_ hb; have NB495_496 := nl_ hg BK495; have NB496_495 := nr_ hg BK495; replace BK495 := bkb_ BK495 hb; clear hb hbox hg; have hnb7 := NB495_496.out; have hnc7 := NB496_495.out; obtain ⟨hcz8, hfz8⟩ := bcf_ BK495; obtain ⟨hcz9, hfz9⟩ := bcf_ BK496))
  (try simp only [Act.put, List.setIfInBounds_toArray, List.set_cons_zero, List.set_cons_succ])
  have H := HC4.out
  clear HC4
  by_cases c10 : (a0_1 != a1_1) = true
  ·rw [if_pos c10] at H
   have c10b0 : (a0_1 != a1_1) = true := c10
   (try (have c10b1 : decide (a0_1 = a1_1) = false := by simpa using c10))
   (try (have c10b2 : (a0_1 == a1_1) = false := by simpa using c10))
   (try (have c10b5 : (!(a0_1 == a1_1)) = true := by rw [c10b2]; rfl))
   (try (have c10b3 : ¬ (a0_1 = a1_1) := by simpa using c10))
   clear c10
   (first | rw [c10b5] | rw [c10b0] | (simp only [i64_w, i32_w]; rw [c10b0]) | skip)
   obtain rfl := Option.some.inj H
   go_wp2
   go_ret
   exact ⟨eq_, bl_⟩
  ·rw [if_neg c10] at H
   have c10b0 : (a0_1 != a1_1) = false := by simpa using c10
   (try (have c10b1 : decide (a0_1 = a1_1) = true := by simpa using c10))
   (try (have c10b2 : (a0_1 == a1_1) = true := by simpa using c10))
   (try (have c10b5 : (!(a0_1 == a1_1)) = false := by rw [c10b2]; rfl))
   clear c10
   (first | rw [c10b5] | rw [c10b0] | (simp only [i64_w, i32_w]; rw [c10b0]) | skip)
   obtain rfl := Option.some.inj H
   go_wp2
   go_ret
   exact ⟨eq_, bl_⟩
 ·rw [if_neg c3] at H
  have c3b0 : (a0_0.toList == a1_0.toList) = false := beq_eq_false_iff_ne.mpr c3
  have c3b1 : (a0_0.toList != a1_0.toList) = true := bne_iff_ne.mpr c3
  obtain rfl := Option.some.inj H
  go_enter Try.func92, Try.ntmps92
  go_wp2_with (first | ((with_reducible refine gD_ 2 rfl ?_); refine bx_ (N := 2) (cs := #[.string a0_0, .bool a0_1]) (t := 52) ?_; intro gb495 hg w11 hbox hb; have BK495 := aa_ (hbox); have GW495 := gs_ hg; have GE495 := gs_ hg; replace HB := hbs_ hb; clear hb hbox hg) | ((with_reducible refine gD_ 3 rfl ?_); refine bx_ (N := 3) (cs := #[.string a1_0, .bool a1_1]) (t := 52) ?_; intro gb496 hg w12 hbox hb; have BK496 := aa_ (hbox); have GW496 := gs_ hg; have GE496 := gs_ hg; replace HB := hbs_ hb; have NB495_496 := nl_ hg BK495; have NB496_495 := nr_ hg BK495; replace BK495 := bkb_ BK495 hb; clear hb hbox hg; have hnb13 := NB495_496.out; have hnc13 := NB496_495.out; obtain ⟨hcz14, hfz14⟩ := bcf_ BK495; obtain ⟨hcz15, hfz15⟩ := bcf_ BK496))
  go_ret
  exact ⟨eq_, bl_⟩
def laws_eqItemS.l0 : Nat → List (S52) → List (S52) → Int → Option (Bool)
 | 0, _, _, _ => none
 | k + 1, x0, x1, x5 => if x5 < (x0.length : Int) then (if 0 ≤ x5 then (if x5 < (x1.length : Int) then ((laws_eqItem.f ((rd_T52 x0 x5).f0) ((rd_T52 x0 x5).f1) ((rd_T52 x1 x5).f0) ((rd_T52 x1 x5).f1)).bind fun t499 => (if t499 = true then (laws_eqItemS.l0 k x0 x1 (wrap64 (x5 + 1))) else (some false))) else (none)) else (none)) else (some true)
def laws_eqItemS.f (k : Nat) (l0 : List (S52)) (l1 : List (S52)) : Option (Bool) := if (l0.length : Int) = (l1.length : Int) then (laws_eqItemS.l0 k l0 l1 0) else (some false)
def laws_eqItemS.T6 : Bool × List (List Nat × List Nat) := (true, [([], []), ([], []), ([0, 1], [0, 1]), ([2], [2]), ([], []), ([], []), ([4, 5], [4, 5]), ([6], [6]), ([3, 7], [3, 7]), ([8], [8])])
def laws_eqItemS.B6 : List Nat := [0, 0, 3, 7, 0, 0, 48, 112, 255, 511]
theorem laws_eqItemS.tab6 : rtab .any (opsOf Try.f87 6) = laws_eqItemS.T6 := by kernel_rfl
theorem laws_eqItemS.bits6 : waitsOk laws_eqItemS.T6.2 laws_eqItemS.B6 = true := by kernel_rfl
set_option maxHeartbeats 8000000 in
set_option maxRecDepth 100000 in
theorem laws_eqItemS.calls (k : Nat) (A0 : Option Addr) (c0 : Nat) (l0 : List (S52)) (A1 : Option Addr) (c1 : Nat) (l1 : List (S52)) (r : Bool) (w : World) (hr0 : Kd.C k52 w A0 l0.length l0) (hc0 : l0.length ≤ c0) (hr1 : Kd.C k52 w A1 l1.length l1) (hc1 : l1.length ≤ c1) (h : laws_eqItemS.f k l0 l1 = some r) :
  Calls Try.prog 87 #[.slice A0 l0.length c0, .slice A1 l1.length c1] w fun e w' => e = .returned (.bool r) ∧ Below w.heap.size w w' := by
 have hu52 := Try.underlying52
 have HR0 := aa_ hr0
 have HC0 := aa_ hc0
 clear hr0 hc0
 have HR1 := aa_ hr1
 have HC1 := aa_ hc1
 clear hr1 hc1
 have HB := aa_ (Below.refl w.heap.size w)
 have H : (if (l0.length : Int) = (l1.length : Int) then (laws_eqItemS.l0 k l0 l1 0) else (some false)) = some r := h
 clear h
 by_cases c3 : (l0.length : Int) = (l1.length : Int)
 ·rw [if_pos c3] at H
  have c3b0 : ((l0.length : Int) == (l1.length : Int)) = true := beq_iff_eq.mpr c3
  have c3b1 : ((l0.length : Int) != (l1.length : Int)) = false := bne_eq_false_iff_eq.mpr c3
  have c3b2 : (l0.length == l1.length) = true := by first | simpa using c3 | (simp at c3 ⊢; omega)
  clear c3
  have H' := aa_ H
  clear H
  go_enter Try.func87, Try.ntmps87
  go_wp2
  go_loopg [5] k (fun kq v5 w' => ∃ (x5_1 : Int), v5 = .int .i64 x5_1 ∧ Aside0 (laws_eqItemS.l0 kq l0 l1 x5_1 = some r) ∧ Aside0 (kq ≤ k) ∧ Aside0 (Below w.heap.size w w'))
  case atStart => exact ⟨(0), rf_, H', ⟨Nat.le_refl _⟩, ⟨bl_⟩⟩
  case round =>
   clear H'
   try clear c1
   try clear p2
   try clear c3
   try clear c3b0
   try clear c3b1
   try clear c3b2
   obtain ⟨x5_1, rfl, HA, HK1, HB⟩ := hrel
   cases gk with
   | zero => exact absurd HA.out (by simp [laws_eqItemS.l0])
   | succ k1 =>
    have H := HA.out
    clear HA
    simp only [laws_eqItemS.l0] at H
    by_cases c4 : x5_1 < (l0.length : Int)
    ·rw [if_pos c4] at H
     have c4b0 : decide (x5_1 < (l0.length : Int)) = true := decide_eq_true c4
     clear c4
     obtain ⟨c5b0, H⟩ := ifd_ H
     obtain ⟨c6b0, H⟩ := ifd_ H
     obtain ⟨t499, A7, H⟩ := bindE_ H
     have HC8 := aa_ H
     clear H
     try go_wp2
     replace HB := aa_ (below_drew1 HB.out)
     have p497 : 0 ≤ (x5_1 : Int) := od_
     have q497 : x5_1 < (l0.length : Int) := od_
     obtain ⟨ad497, e497, hx497_0, hx497_1⟩ := at_T52 HR0.out x5_1 p497 q497
     have hw497_1 := hx497_1
     have hw497_0 := hx497_0
     cases e497
     replace hx497_0 := cb_ HB hx497_0
     replace hx497_1 := cb_ HB hx497_1
     replace p497 := eq_true p497
     replace q497 := eq_true q497
     have p498 : 0 ≤ (x5_1 : Int) := od_
     have q498 : x5_1 < (l1.length : Int) := od_
     obtain ⟨ad498, e498, hx498_0, hx498_1⟩ := at_T52 HR1.out x5_1 p498 q498
     have hw498_1 := hx498_1
     have hw498_0 := hx498_0
     cases e498
     replace hx498_0 := cb_ HB hx498_0
     replace hx498_1 := cb_ HB hx498_1
     replace p498 := eq_true p498
     replace q498 := eq_true q498
     refine start_ (n := 10) (S := fun w' => w'.cell? (ad497.add ((x5_1).toNat * 2)) = some (.string ((rd_T52 l0 x5_1).f0)) ∧ w'.cell? ⟨(ad497.add ((x5_1).toNat * 2)).block, (ad497.add ((x5_1).toNat * 2)).off + 1, none⟩ = some (.bool ((rd_T52 l0 x5_1).f1)) ∧ w'.cell? (ad498.add ((x5_1).toNat * 2)) = some (.string ((rd_T52 l1 x5_1).f0)) ∧ w'.cell? ⟨(ad498.add ((x5_1).toNat * 2)).block, (ad498.add ((x5_1).toNat * 2)).off + 1, none⟩ = some (.bool ((rd_T52 l1 x5_1).f1))) (ds := []) (ba_ 10 0) (by kernel_rfl) rfl rfl ⟨(cb_ HB hw497_0 :), (cb_ HB hw497_1 :), (cb_ HB hw498_0 :), (cb_ HB hw498_1 :)⟩ (fun hHeld => ?_); refine with_tabW laws_eqItemS.tab6 laws_eqItemS.bits6 (fun HT_ HW_ => ?_)
     generalize wr.drew = w9 at HB hx497_0 hx497_1 hx498_0 hx498_1 hHeld ⊢
     refine pureZ_ (i := 0) (some 17) (ba_ 10 1) (ao_ HT_) ?_
     refine pureZ_ (i := 1) (some 18) (ba_ 10 3) (ao_ HT_) ?_
     refine pureZ_ (i := 2) (some 19) (ba_ 10 7) (ao_ HT_) ?_
     refine pureZ_ (i := 4) (some 21) (ba_ 10 23) (ao_ HT_) ?_
     refine pureZ_ (i := 5) (some 22) (ba_ 10 55) (ao_ HT_) ?_
     refine pureZ_ (i := 6) (some 23) (ba_ 10 119) (ao_ HT_) ?_
     refine takeZ_ (i := 3) (some 20) (ba_ 10 127) (take_ofW HT_.out HW_.out (by kernel_rfl)) hHeld ?_
     refine takeZ_ (i := 7) (some 24) (ba_ 10 255) (take_ofW HT_.out HW_.out (by kernel_rfl)) hHeld ?_
     refine one_ (i := 8) (N := some 25) (ba_ 10 511) rfl rfl (one_of HT_.out (by kernel_rfl)) (by decide) (fun K hK => ?_)
     refine goes_ Try.func92 (by kernel_rfl) rfl #[.agg #[.string ((rd_T52 l0 x5_1).f0), .bool ((rd_T52 l0 x5_1).f1)], .agg #[.string ((rd_T52 l1 x5_1).f0), .bool ((rd_T52 l1 x5_1).f1)]] (by rfl) rfl rfl (by (try simp only [List.map_toArray, List.map_cons, List.map_nil]); first | done | rfl | (simp only [List.length_drop, List.length_take]; rfl)) ?_
     with_reducible refine (laws_eqItem.calls ((rd_T52 l0 x5_1).f0) ((rd_T52 l0 x5_1).f1) ((rd_T52 l1 x5_1).f0) ((rd_T52 l1 x5_1).f1) t499 _ A7.out).mono ?_
     rintro e w10 ⟨rfl, hb⟩
     refine ⟨_, rfl, ?_⟩
     replace HB := hbs_ hb
     (try clear hb)
     (try clear hb2)
     (try clear hk)
     (try clear hi)
     refine hK.out _ _ ⟨(cb_ HB hw497_0 :), (cb_ HB hw497_1 :), (cb_ HB hw498_0 :), (cb_ HB hw498_1 :)⟩ (fun hHeld => ?_)
     clear hK K
     refine norm_ (a' := ?_) ?_ ?_
     rotate_left
     ·show Act.put _ (some 25) _ = _
      simp only [Act.put, List.setIfInBounds_toArray, List.set_cons_zero, List.set_cons_succ, i64_w, i32_w]
      rfl
     refine pureZ_ (i := 9) (some 26) (ba_ 10 1023) (ao_ HT_) ?_
     refine done_ (done_of HT_.out (by kernel_rfl)) ?_
     go_upto_if 26 with (fail)
     have H := HC8.out
     clear HC8
     by_cases c11 : t499 = true
     ·subst c11
      replace H := ite_t_ H
      have H' := aa_ H
      clear H
      go_wp2
      go_roundg k1
      case measure => have := HK1.out; omega
      case rel => exact ⟨(wrap64 (x5_1 + 1)), rf_, H', ⟨by have := HK1.out; omega⟩, ⟨bl_⟩⟩
     ·replace c11 := Bool.eq_false_iff.mpr c11
      subst c11
      replace H := ite_f_ H
      obtain rfl := Option.some.inj H
      go_wp2
      go_ret
      exact ⟨eq_, bl_⟩
    ·rw [if_neg c4] at H
     have c4b0 : decide (x5_1 < (l0.length : Int)) = false := decide_eq_false c4
     clear c4
     obtain rfl := Option.some.inj H
     go_wp2
     go_ret
     exact ⟨eq_, bl_⟩
 ·rw [if_neg c3] at H
  have c3b0 : ((l0.length : Int) == (l1.length : Int)) = false := beq_eq_false_iff_ne.mpr c3
  have c3b1 : ((l0.length : Int) != (l1.length : Int)) = true := bne_iff_ne.mpr c3
  have c3b2 : (l0.length == l1.length) = false := by first | simpa using c3 | (simp at c3 ⊢; omega)
  obtain rfl := Option.some.inj H
  go_enter Try.func87, Try.ntmps87
  go_wp2
  go_ret
  exact ⟨eq_, bl_⟩
def laws_eqShelf.f (k : Nat) (a0_0 : Int) (l0_1 : List (S52)) (a1_0 : Int) (l1_1 : List (S52)) : Option (Bool) := if a0_0 = a1_0 then ((laws_eqItemS.f k l0_1 l1_1).bind fun t502 => (if t502 = true then (some true) else (some false))) else (some false)
set_option maxHeartbeats 8000000 in
set_option maxRecDepth 100000 in
theorem laws_eqShelf.calls (k : Nat) (a0_0 : Int) (A0_1 : Option Addr) (c0_1 : Nat) (l0_1 : List (S52)) (a1_0 : Int) (A1_1 : Option Addr) (c1_1 : Nat) (l1_1 : List (S52)) (r : Bool) (w : World) (hr0_1 : Kd.C k52 w A0_1 l0_1.length l0_1) (hc0_1 : l0_1.length ≤ c0_1) (hr1_1 : Kd.C k52 w A1_1 l1_1.length l1_1) (hc1_1 : l1_1.length ≤ c1_1) (h : laws_eqShelf.f k a0_0 l0_1 a1_0 l1_1 = some r) :
  Calls Try.prog 75 #[.agg #[.int .i64 a0_0, .slice A0_1 l0_1.length c0_1], .agg #[.int .i64 a1_0, .slice A1_1 l1_1.length c1_1]] w fun e w' => e = .returned (.bool r) ∧ Below w.heap.size w w' := by
 have hu61 := Try.underlying61
 have HR0_1 := aa_ hr0_1
 have HC0_1 := aa_ hc0_1
 clear hr0_1 hc0_1
 have HR1_1 := aa_ hr1_1
 have HC1_1 := aa_ hc1_1
 clear hr1_1 hc1_1
 have HB := aa_ (Below.refl w.heap.size w)
 have H : (if a0_0 = a1_0 then ((laws_eqItemS.f k l0_1 l1_1).bind fun t502 => (if t502 = true then (some true) else (some false))) else (some false)) = some r := h
 clear h
 have HC3 := aa_ H
 clear H
 go_enter Try.func75, Try.ntmps75
 go_upto_if 9 with (first | ((with_reducible refine gD_ 2 rfl ?_); refine bx_ (N := 2) (cs := #[.int .i64 a0_0, .slice A0_1 l0_1.length c0_1]) (t := 61) ?_; intro gb500 hg w4 hbox hb; have BK500 := aa_ (hbox); have GW500 := gs_ hg; have GE500 := gs_ hg; replace HB := hbs_ hb; clear hb hbox hg) | ((with_reducible refine gD_ 3 rfl ?_); refine bx_ (N := 3) (cs := #[.int .i64 a1_0, .slice A1_1 l1_1.length c1_1]) (t := 61) ?_; intro gb501 hg w5 hbox hb; have BK501 := aa_ (hbox); have GW501 := gs_ hg; have GE501 := gs_ hg; replace HB := hbs_ hb; have NB500_501 := nl_ hg BK500; have NB501_500 := nr_ hg BK500; replace BK500 := bkb_ BK500 hb; clear hb hbox hg; have hnb6 := NB500_501.out; have hnc6 := NB501_500.out; obtain ⟨hcz7, hfz7⟩ := bcf_ BK500; obtain ⟨hcz8, hfz8⟩ := bcf_ BK501))
 (try simp only [Act.put, List.setIfInBounds_toArray, List.set_cons_zero, List.set_cons_succ])
 have H := HC3.out
 clear HC3
 by_cases c9 : a0_0 = a1_0
 ·rw [if_pos c9] at H
  have c9b0 : (a0_0 == a1_0) = true := beq_iff_eq.mpr c9
  have c9b1 : (a0_0 != a1_0) = false := bne_eq_false_iff_eq.mpr c9
  clear c9
  (first | rw [c9b0] | (simp only [i64_w, i32_w]; rw [c9b0]) | skip)
  obtain ⟨t502, A10, H⟩ := bindE_ H
  have HC11 := aa_ H
  clear H
  have hnb12 := NB500_501.out
  have hnc12 := NB501_500.out
  have hcz13 := blk_cell BK500.out
  have hfz13 := blk_frozen BK500.out
  have hcz14 := blk_cell BK501.out
  have hfz14 := blk_frozen BK501.out
  go_upto_if 15 with (first | ((with_reducible refine gC_ 87 rfl ?_); refine goesC_ (some 14) Try.func87 #[.slice A0_1 l0_1.length c0_1, .slice A1_1 l1_1.length c1_1] ?_; (with_reducible refine (laws_eqItemS.calls k _ _ l0_1 _ _ l1_1 t502 _ ?side1 ?side2 ?side3 ?side4 A10.out).mono ?_); (case side1 => repeat (first | exact (Kd.C_below HR0_1.out HB.out) | (with_reducible refine Kd.C_alloc ?_ _) | (with_reducible refine Kd.C_drewN ?_ _) | (with_reducible refine Kd.C_drew ?_))); (case side2 => exact HC0_1.out); (case side3 => repeat (first | exact (Kd.C_below HR1_1.out HB.out) | (with_reducible refine Kd.C_alloc ?_ _) | (with_reducible refine Kd.C_drewN ?_ _) | (with_reducible refine Kd.C_drew ?_))); (case side4 => exact HC1_1.out); rintro e w15 ⟨rfl, hb⟩; refine ⟨_, rfl, ?_⟩; replace BK500 := bkb_ BK500 hb; replace BK501 := bkb_ BK501 hb; replace HB := hbs_ hb; clear hb))
  (try simp only [Act.put, List.setIfInBounds_toArray, List.set_cons_zero, List.set_cons_succ])
  have H := HC11.out
  clear HC11
  by_cases c16 : t502 = true
  ·subst c16
   replace H := ite_t_ H
   obtain rfl := Option.some.inj H
   go_wp2
   go_ret
   exact ⟨eq_, bl_⟩
  ·replace c16 := Bool.eq_false_iff.mpr c16
   subst c16
   replace H := ite_f_ H
   obtain rfl := Option.some.inj H
   go_wp2
   go_ret
   exact ⟨eq_, bl_⟩
 ·rw [if_neg c9] at H
  have c9b0 : (a0_0 == a1_0) = false := beq_eq_false_iff_ne.mpr c9
  have c9b1 : (a0_0 != a1_0) = true := bne_iff_ne.mpr c9
  (first | rw [c9b0] | (simp only [i64_w, i32_w]; rw [c9b0]) | skip)
  obtain rfl := Option.some.inj H
  go_wp2
  go_ret
  exact ⟨eq_, bl_⟩
end Go.Proofs.Ytkimdmdkldlhpaa.PA
