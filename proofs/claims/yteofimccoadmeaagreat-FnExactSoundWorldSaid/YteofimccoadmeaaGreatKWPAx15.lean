import Derived.Test.YteofimccoadmeaaGreatKWPAx14
-- printed by wip/tools
namespace Go.Proofs.YteofimccoadmeaaGreat.PA
open Go.RowKit Go.Proofs.YteofimccoadmeaaGreatW.PrintWords Go.Proofs.YteofimccoadmeaaGreatW.PrintLast Go.Proofs.YteofimccoadmeaaGreatW.PrintMore
attribute [local go_sem] max2_int min2_int max_two min_two max_three min_three max_four min_four
set_option linter.unusedVariables false
set_option linter.unusedSimpArgs false
attribute [local go_sem high] eqA83
def impl_peerHere.f (k : Nat) (l0_0 : List (S68)) (a1 : Int) : Option (Int) := (impl_Peer_72.f k l0_0 (clo87 a1)).bind fun t465 => (some t465)
set_option maxHeartbeats 8000000 in
set_option maxRecDepth 100000 in
theorem impl_peerHere.calls (k : Nat) (A0_0 : Option Addr) (c0_0 : Nat) (l0_0 : List (S68)) (a1 : Int) (r : Int) (w : World) (hr0_0 : Kd.C k68 w A0_0 l0_0.length l0_0) (hc0_0 : l0_0.length ≤ c0_0) (h : impl_peerHere.f k l0_0 a1 = some r) :
  Calls Tryz.prog 71 #[.agg #[.slice A0_0 l0_0.length c0_0], .int .i64 a1] w fun e w' => e = .returned (.int .i64 r) ∧ Below w.heap.size w w' := by
 have hu35 := Tryz.underlying35
 have hmf : ∀ (fn : Fn) (first cap : Array Value) (w : World), (Instr.makeFunc fn first cap).run Tryz.prog w = .ok (.func fn first cap) w := fun _ _ _ _ => rfl
 have hu3 := Tryz.underlying3
 have HR0_0 := aa_ hr0_0
 have HC0_0 := aa_ hc0_0
 clear hr0_0 hc0_0
 have HB := aa_ (Below.refl w.heap.size w)
 have H : ((impl_Peer_72.f k l0_0 (clo87 a1)).bind fun t465 => (some t465)) = some r := h
 clear h
 obtain ⟨t465, A3, H⟩ := bindE_ H
 obtain rfl := Option.some.inj H
 go_enter Tryz.func71, Tryz.ntmps71
 go_wp2_with (first | ((with_reducible refine gD_ 2 rfl ?_); refine bx_ (N := 2) (cs := #[.slice A0_0 l0_0.length c0_0]) (t := 35) ?_; intro gb463 hg w4 hbox hb; have BK463 := aa_ (hbox); have GW463 := gs_ hg; have GE463 := gs_ hg; replace HB := hbs_ hb; clear hb hbox hg) | ((with_reducible refine gD_ 3 rfl ?_); refine bx_ (N := 3) (cs := #[.int .i64 a1]) (t := 3) ?_; intro gb464 hg w5 hbox hb; have BK464 := aa_ (hbox); have GW464 := gs_ hg; have GE464 := gs_ hg; replace HB := hbs_ hb; have NB463_464 := nl_ hg BK463; have NB464_463 := nr_ hg BK463; replace BK463 := bkb_ BK463 hb; clear hb hbox hg; have hnb6 := NB463_464.out; have hnc6 := NB464_463.out; obtain ⟨hcz7, hfz7⟩ := bcf_ BK463) | ((with_reducible refine gC_ 72 rfl ?_); refine goesC_ (some 8) Tryz.func72 #[.slice A0_0 l0_0.length c0_0, .func (.func 87) #[] #[.pointer (some ⟨gb464, 0, none⟩)]] ?_; (with_reducible refine (impl_Peer_72.calls k _ _ l0_0 (clo87 a1) 87 #[.pointer (some ⟨gb464, 0, none⟩)] t465 _ ?side1 ?side2 ?side3 A3.out).mono ?_); (case side1 => repeat (first | exact (Kd.C_below HR0_0.out HB.out) | (with_reducible refine Kd.C_alloc ?_ _) | (with_reducible refine Kd.C_drewN ?_ _) | (with_reducible refine Kd.C_drew ?_))); (case side2 => exact HC0_0.out); (case side3 => exact fun W_ hW_ => clo87_ok _ _ (bkb_ BK464 hW_).out); rintro e w8 ⟨rfl, hb⟩; refine ⟨_, rfl, ?_⟩; replace BK463 := bkb_ BK463 hb; replace BK464 := bkb_ BK464 hb; replace HB := hbs_ hb; clear hb))
 go_ret
 exact ⟨eq_, bl_⟩
-- NOT PRINTED: function 70 (impl_knowsOne_1)
theorem here72 (xs : List S68) (hl : xs.length ≤ 1048576) (i : Int) : ∀ d j : Nat, xs.length - j = d → j ≤ xs.length → ∃ r : Int, impl_Peer_72.l0 (d + 1) xs (clo87 i) (xs.length : Int) (j : Int) = some r ∧ decide (r ≥ 0) = (xs.drop j).any (hereB i) := by
 intro d
 induction d with
 | zero =>
  intro j hd hj
  obtain rfl : j = xs.length := by omega
  refine ⟨-1, ?_, by simp⟩
  simp only [impl_Peer_72.l0, Int.lt_irrefl, if_false]
 | succ d ih =>
  intro j hd hj
  have hjl : j < xs.length := by omega
  obtain ⟨r, h1, h2⟩ := ih (j + 1) (by omega) (by omega)
  have hw : wrap64 ((j : Int) + 1) = ((j + 1 : Nat) : Int) := by unfold wrap64; omega
  have hr : rd_T68 xs (j : Int) = xs[j] := by unfold rd_T68; simp [hjl]
  rw [List.drop_eq_getElem_cons hjl, List.any_cons]
  unfold impl_Peer_72.l0
  rw [if_pos (show (j : Int) < (xs.length : Int) by omega), if_pos (show (0 : Int) ≤ (j : Int) by omega), if_pos (show (j : Int) < (xs.length : Int) by omega), hw, hr]
  show ∃ r : Int, (if hereB i xs[j] = true then some (j : Int) else impl_Peer_72.l0 (d + 1) xs (clo87 i) (xs.length : Int) ((j + 1 : Nat) : Int)) = some r ∧ _
  cases hq : hereB i xs[j]
  ·exact ⟨r, by simpa using h1, by simpa using h2⟩
  ·exact ⟨(j : Int), by simp, by simp⟩
theorem here71 (xs : List S68) (hl : xs.length ≤ 1048576) (i : Int) : ∃ k r, impl_peerHere.f k xs i = some r ∧ decide (r ≥ 0) = xs.any (hereB i) := by
 obtain ⟨r, h1, h2⟩ := here72 xs hl i xs.length 0 rfl (Nat.zero_le _)
 refine ⟨xs.length + 1, r, ?_, by simpa using h2⟩
 unfold impl_peerHere.f impl_Peer_72.f
 have e : impl_Peer_72.l0 (xs.length + 1) xs (clo87 i) (xs.length : Int) 0 = some r := h1
 rw [e, Option.bind_some]
set_option maxHeartbeats 4000000 in
set_option maxRecDepth 100000 in
theorem clo70_ok (xs : List S68) (g : Nat) {A0 : Option Addr} {c0 : Nat} {W : World} (hbox : W.heap[g]? = some (.cells #[.slice A0 xs.length c0] 35 (0, 0))) (hr : Kd.C k68 W A0 xs.length xs) (hc : xs.length ≤ c0) : FnOkI (clo70 xs) 70 #[.pointer (some ⟨g, 0, none⟩)] W := by
 refine ⟨fun args w => enters_ Tryz.func70 (by kernel_rfl) rfl args w, fun x r h => ?_⟩
 unfold clo70 at h
 by_cases hl : xs.length ≤ 1048576
 case neg => rw [if_neg hl] at h; cases h
 rw [if_pos hl] at h
 obtain rfl := Option.some.inj h
 clear h
 obtain ⟨k, i, hk, hi⟩ := here71 xs hl x
 rw [← hi]
 have hu35 := Tryz.underlying35
 have hu3 := Tryz.underlying3
 have BK := aa_ hbox
 have HR0 := aa_ hr
 have HC0 := aa_ hc
 have H := aa_ hk
 have HB := aa_ (Below.refl W.heap.size W)
 have hcz := blk_cell BK.out
 clear hr hc hk hbox hi hl
 show Calls Tryz.prog 70 #[.int .i64 x, .pointer (some ⟨g, 0, none⟩)] W _
 go_enter Tryz.func70, Tryz.ntmps70
 go_wp2_with ((with_reducible refine gC_ 71 rfl ?_); refine goesC_ (some 6) Tryz.func71 #[.agg #[.slice A0 xs.length c0], .int .i64 x] ?_; refine (impl_peerHere.calls k A0 c0 xs x i _ (Kd.C_below HR0.out HB.out) HC0.out H.out).mono ?_; rintro e w8 ⟨rfl, hb⟩; refine ⟨_, rfl, ?_⟩; replace HB := hbs_ hb; clear hb)
 go_ret
 exact ⟨by first | rfl | (simp; done), bl_⟩
def impl_knowsOne.f (k : Nat) (l0_0 : List (S68)) (a1_0 : Int) (a1_1 : Bool) (a1_2 : Int) (l1_3 : List Int) (l1_4 : List Int) (l1_5 : List (S108)) : Option (Bool) := (slices_ContainsFunc_int_int.f k l1_3 (clo70 l0_0)).bind fun t468 => (some t468)
set_option maxHeartbeats 8000000 in
set_option maxRecDepth 100000 in
theorem impl_knowsOne.calls (k : Nat) (A0_0 : Option Addr) (c0_0 : Nat) (l0_0 : List (S68)) (a1_0 : Int) (a1_1 : Bool) (a1_2 : Int) (A1_3 : Option Addr) (c1_3 : Nat) (l1_3 : List Int) (A1_4 : Option Addr) (c1_4 : Nat) (l1_4 : List Int) (A1_5 : Option Addr) (c1_5 : Nat) (l1_5 : List (S108)) (r : Bool) (w : World) (hr0_0 : Kd.C k68 w A0_0 l0_0.length l0_0) (hc0_0 : l0_0.length ≤ c0_0) (hr1_3 : Kd.C (Kd.int .i64) w A1_3 l1_3.length l1_3) (hc1_3 : l1_3.length ≤ c1_3) (hr1_4 : Kd.C (Kd.int .i64) w A1_4 l1_4.length l1_4) (hc1_4 : l1_4.length ≤ c1_4) (hr1_5 : Kd.C k108 w A1_5 l1_5.length l1_5) (hc1_5 : l1_5.length ≤ c1_5) (h : impl_knowsOne.f k l0_0 a1_0 a1_1 a1_2 l1_3 l1_4 l1_5 = some r) :
  Calls Tryz.prog 43 #[.agg #[.slice A0_0 l0_0.length c0_0], .agg #[.int .i64 a1_0, .bool a1_1, .int .i64 a1_2, .slice A1_3 l1_3.length c1_3, .slice A1_4 l1_4.length c1_4, .slice A1_5 l1_5.length c1_5]] w fun e w' => e = .returned (.bool r) ∧ Below w.heap.size w w' := by
 have hu35 := Tryz.underlying35
 have hu68 := Tryz.underlying68
 have hmf : ∀ (fn : Fn) (first cap : Array Value) (w : World), (Instr.makeFunc fn first cap).run Tryz.prog w = .ok (.func fn first cap) w := fun _ _ _ _ => rfl
 have HR0_0 := aa_ hr0_0
 have HC0_0 := aa_ hc0_0
 clear hr0_0 hc0_0
 have HR1_3 := aa_ hr1_3
 have HC1_3 := aa_ hc1_3
 clear hr1_3 hc1_3
 have HR1_4 := aa_ hr1_4
 have HC1_4 := aa_ hc1_4
 clear hr1_4 hc1_4
 have HR1_5 := aa_ hr1_5
 have HC1_5 := aa_ hc1_5
 clear hr1_5 hc1_5
 have HB := aa_ (Below.refl w.heap.size w)
 have H : ((slices_ContainsFunc_int_int.f k l1_3 (clo70 l0_0)).bind fun t468 => (some t468)) = some r := h
 clear h
 obtain ⟨t468, A3, H⟩ := bindE_ H
 obtain rfl := Option.some.inj H
 go_enter Tryz.func43, Tryz.ntmps43
 go_wp2_with (first | ((with_reducible refine gD_ 2 rfl ?_); refine bx_ (N := 2) (cs := #[.slice A0_0 l0_0.length c0_0]) (t := 35) ?_; intro gb466 hg w4 hbox hb; have BK466 := aa_ (hbox); have GW466 := gs_ hg; have GE466 := gs_ hg; replace HB := hbs_ hb; clear hb hbox hg) | ((with_reducible refine gD_ 3 rfl ?_); refine bx_ (N := 3) (cs := #[.int .i64 a1_0, .bool a1_1, .int .i64 a1_2, .slice A1_3 l1_3.length c1_3, .slice A1_4 l1_4.length c1_4, .slice A1_5 l1_5.length c1_5]) (t := 68) ?_; intro gb467 hg w5 hbox hb; have BK467 := aa_ (hbox); have GW467 := gs_ hg; have GE467 := gs_ hg; replace HB := hbs_ hb; have NB466_467 := nl_ hg BK466; have NB467_466 := nr_ hg BK466; replace BK466 := bkb_ BK466 hb; clear hb hbox hg; have hnb6 := NB467_466.out; have hnc6 := NB466_467.out; obtain ⟨hcz7, hfz7⟩ := bcf_ BK467) | ((with_reducible refine gC_ 66 rfl ?_); refine goesC_ (some 8) Tryz.func66 #[.slice A1_3 l1_3.length c1_3, .func (.func 70) #[] #[.pointer (some ⟨gb466, 0, none⟩)]] ?_; (with_reducible refine (slices_ContainsFunc_int_int.calls k _ _ l1_3 (clo70 l0_0) 70 #[.pointer (some ⟨gb466, 0, none⟩)] t468 _ ?side1 ?side2 ?side3 A3.out).mono ?_); (case side1 => repeat (first | exact (Kd.C_below HR1_3.out HB.out) | (with_reducible refine Kd.C_alloc ?_ _) | (with_reducible refine Kd.C_drewN ?_ _) | (with_reducible refine Kd.C_drew ?_))); (case side2 => exact HC1_3.out); (case side3 => exact fun W_ hW_ => clo70_ok _ _ (bkb_ BK466 hW_).out (Kd.C_below HR0_0.out (hbs_ hW_).out) HC0_0.out); rintro e w8 ⟨rfl, hb⟩; refine ⟨_, rfl, ?_⟩; replace BK466 := bkb_ BK466 hb; replace BK467 := bkb_ BK467 hb; replace HB := hbs_ hb; clear hb))
 go_ret
 exact ⟨eq_, bl_⟩
def impl_Peer_44.f (k : Nat) (l0 : List (S68)) (a1 : (S68 → Option Bool)) : Option (Bool) := (impl_Peer_72.f k l0 a1).bind fun t469 => (some (decide (t469 ≥ 0)))
set_option maxHeartbeats 8000000 in
set_option maxRecDepth 100000 in
theorem impl_Peer_44.calls (k : Nat) (A0 : Option Addr) (c0 : Nat) (l0 : List (S68)) (a1 : (S68 → Option Bool)) (na1_ : Nat) (ga1_ : Array Value) (r : Bool) (w : World) (hr0 : Kd.C k68 w A0 l0.length l0) (hc0 : l0.length ≤ c0) (hq1 : ∀ W_, Below w.heap.size w W_ → FnOk68 a1 na1_ ga1_ W_) (h : impl_Peer_44.f k l0 a1 = some r) :
  Calls Tryz.prog 44 #[.slice A0 l0.length c0, .func (.func na1_) #[] ga1_] w fun e w' => e = .returned (.bool r) ∧ Below w.heap.size w w' := by
 have HR0 := aa_ hr0
 have HC0 := aa_ hc0
 clear hr0 hc0
 have HFN1 := aa_ hq1
 have eg1 := (hq1 w (Below.refl _ _)).1
 clear hq1
 have HB := aa_ (Below.refl w.heap.size w)
 have H : ((impl_Peer_72.f k l0 a1).bind fun t469 => (some (decide (t469 ≥ 0)))) = some r := h
 clear h
 obtain ⟨t469, A3, H⟩ := bindE_ H
 obtain rfl := Option.some.inj H
 go_enter Tryz.func44, Tryz.ntmps44
 go_wp2_with (first | ((with_reducible refine gC_ 72 rfl ?_); refine goesC_ (some 7) Tryz.func72 #[.slice A0 l0.length c0, .func (.func na1_) #[] ga1_] ?_; (with_reducible refine (impl_Peer_72.calls k _ _ l0 a1 na1_ ga1_ t469 _ ?side1 ?side2 ?side3 A3.out).mono ?_); (case side1 => exact cc_ HR0); (case side2 => exact HC0.out); (case side3 => exact fun W_ hW_ => HFN1.out W_ ((show Below w.heap.size w _ from bl_).trans hW_)); rintro e w4 ⟨rfl, hb⟩; refine ⟨_, rfl, ?_⟩; replace HB := hbs_ hb; clear hb))
 go_ret
 exact ⟨eq_, bl_⟩
-- NOT PRINTED: function 45 (impl_RingOk_1)
mutual
def impl_RingOk.l0 : Nat → List (S68) → Int → Int → List (S68) → Option (Bool)
 | 0, _, _, _, _ => none
 | k + 1, x11, x12, x13, x471000 => if x13 < x12 then (if 0 ≤ x13 then (if x13 < (x11.length : Int) then ((impl_PeerOk.f k ((rd_T68 x11 x13).f0) ((rd_T68 x11 x13).f1) ((rd_T68 x11 x13).f2) ((rd_T68 x11 x13).f3) ((rd_T68 x11 x13).f4) ((rd_T68 x11 x13).f5)).bind fun t474 => (if t474 = true then (if x13 < 4 then (if ((rd_T68 x11 x13).f1 = true) then (if (rd_T68 x11 x13).f1 = true then ((impl_knowsOne.f k x471000 ((rd_T68 x11 x13).f0) ((rd_T68 x11 x13).f1) ((rd_T68 x11 x13).f2) ((rd_T68 x11 x13).f3) ((rd_T68 x11 x13).f4) ((rd_T68 x11 x13).f5)).bind fun t475 => (impl_RingOk.j1 k x13 x11 x12 x13 (!t475) x471000 ((rd_T68 x11 x13).f0) ((rd_T68 x11 x13).f1) ((rd_T68 x11 x13).f2) ((rd_T68 x11 x13).f3) ((rd_T68 x11 x13).f4) ((rd_T68 x11 x13).f5))) else (impl_RingOk.j1 k x13 x11 x12 x13 false x471000 ((rd_T68 x11 x13).f0) ((rd_T68 x11 x13).f1) ((rd_T68 x11 x13).f2) ((rd_T68 x11 x13).f3) ((rd_T68 x11 x13).f4) ((rd_T68 x11 x13).f5))) else (impl_RingOk.j1 k x13 x11 x12 x13 true x471000 ((rd_T68 x11 x13).f0) ((rd_T68 x11 x13).f1) ((rd_T68 x11 x13).f2) ((rd_T68 x11 x13).f3) ((rd_T68 x11 x13).f4) ((rd_T68 x11 x13).f5))) else (if (rd_T68 x11 x13).f1 = true then ((impl_knowsOne.f k x471000 ((rd_T68 x11 x13).f0) ((rd_T68 x11 x13).f1) ((rd_T68 x11 x13).f2) ((rd_T68 x11 x13).f3) ((rd_T68 x11 x13).f4) ((rd_T68 x11 x13).f5)).bind fun t476 => (impl_RingOk.j1 k x13 x11 x12 x13 (!t476) x471000 ((rd_T68 x11 x13).f0) ((rd_T68 x11 x13).f1) ((rd_T68 x11 x13).f2) ((rd_T68 x11 x13).f3) ((rd_T68 x11 x13).f4) ((rd_T68 x11 x13).f5))) else (impl_RingOk.j1 k x13 x11 x12 x13 false x471000 ((rd_T68 x11 x13).f0) ((rd_T68 x11 x13).f1) ((rd_T68 x11 x13).f2) ((rd_T68 x11 x13).f3) ((rd_T68 x11 x13).f4) ((rd_T68 x11 x13).f5)))) else (impl_RingOk.j1 k x13 x11 x12 x13 true x471000 ((rd_T68 x11 x13).f0) ((rd_T68 x11 x13).f1) ((rd_T68 x11 x13).f2) ((rd_T68 x11 x13).f3) ((rd_T68 x11 x13).f4) ((rd_T68 x11 x13).f5)))) else (none)) else (none)) else (some true)
def impl_RingOk.j1 : Nat → Int → List (S68) → Int → Int → Bool → List (S68) → Int → Bool → Int → List Int → List Int → List (S108) → Option (Bool)
 | 0, _, _, _, _, _, _, _, _, _, _, _, _ => none
 | k + 1, x3, x11, x12, x13, x39, x471000, x474000, x474001, x474002, x474003, x474004, x474005 => if x39 = true then (some false) else (if 0 ≤ x3 then (if x3 ≤ (x471000.length : Int) then ((impl_Peer_44.f k (x471000.take (x3 : Int).toNat) (clo45 x474000)).bind fun t481 => (if t481 = true then (some false) else (impl_RingOk.l0 k x11 x12 (wrap64 (x13 + 1)) x471000))) else (none)) else (none))
end
def impl_RingOk.f (k : Nat) (l0_0 : List (S68)) : Option (Bool) := (impl_in.f (l0_0.length : Int) 4 8).bind fun t471 => (if t471 = true then (impl_RingOk.l0 k l0_0 (l0_0.length : Int) 0 l0_0) else (some false))
set_option maxHeartbeats 8000000 in
set_option maxRecDepth 100000 in
theorem impl_RingOk.calls (k : Nat) (A0_0 : Option Addr) (c0_0 : Nat) (l0_0 : List (S68)) (r : Bool) (w : World) (hr0_0 : Kd.C k68 w A0_0 l0_0.length l0_0) (hc0_0 : l0_0.length ≤ c0_0) (h : impl_RingOk.f k l0_0 = some r) :
  Calls Tryz.prog 21 #[.agg #[.slice A0_0 l0_0.length c0_0]] w fun e w' => e = .returned (.bool r) ∧ Below w.heap.size w w' := by
 have hu35 := Tryz.underlying35
 have hu68 := Tryz.underlying68
 have hmf : ∀ (fn : Fn) (first cap : Array Value) (w : World), (Instr.makeFunc fn first cap).run Tryz.prog w = .ok (.func fn first cap) w := fun _ _ _ _ => rfl
 have HR0_0 := aa_ hr0_0
 have HC0_0 := aa_ hc0_0
 clear hr0_0 hc0_0
 have HB := aa_ (Below.refl w.heap.size w)
 have H : ((impl_in.f (l0_0.length : Int) 4 8).bind fun t471 => (if t471 = true then (impl_RingOk.l0 k l0_0 (l0_0.length : Int) 0 l0_0) else (some false))) = some r := h
 clear h
 obtain ⟨t471, A2, H⟩ := bindE_ H
 have HC3 := aa_ H
 clear H
 go_enter Tryz.func21, Tryz.ntmps21
 go_upto_if 9 with (first | ((with_reducible refine gD_ 1 rfl ?_); refine bx_ (N := 1) (cs := #[.slice A0_0 l0_0.length c0_0]) (t := 35) ?_; intro gb470 hg w4 hbox hb; have BK470 := aa_ (hbox); have GW470 := gs_ hg; have GE470 := gs_ hg; replace HB := hbs_ hb; clear hb hbox hg; obtain ⟨hcz5, hfz5⟩ := bcf_ BK470) | ((with_reducible refine gC_ 41 rfl ?_); refine goesC_ (some 8) Tryz.func41 #[.int .i64 (l0_0.length : Int), .int .i64 4, .int .i64 8] ?_; (with_reducible refine (impl_in.calls (l0_0.length : Int) 4 8 t471 _ A2.out).mono ?_); rintro e w' ⟨rfl, ⟨nd, rfl⟩⟩; refine ⟨_, rfl, ?_⟩))
 (try simp only [Act.put, sb_, sz_, ss_])
 have H := HC3.out
 clear HC3
 by_cases c6 : t471 = true
 ·subst c6
  replace H := ite_t_ H
  have H' := aa_ H
  clear H
  have hcz7 := blk_cell BK470.out
  have hfz7 := blk_frozen BK470.out
  go_wp2
  go_loopg [13] k (fun kq v13 w' => ∃ (x13_1 : Int), v13 = .int .i64 x13_1 ∧ Aside0 (impl_RingOk.l0 kq l0_0 (l0_0.length : Int) x13_1 l0_0 = some r) ∧ Aside0 (kq ≤ k) ∧ Aside0 (w'.heap[gb470]? = some (.cells #[(.slice A0_0 l0_0.length c0_0)] 35 (0, 0))) ∧ Aside0 (Below w.heap.size w w'))
  case atStart => exact ⟨(0), rf_, H', ⟨Nat.le_refl _⟩, ⟨bk_ BK470⟩, ⟨bl_⟩⟩
  case round =>
   clear H'
   try clear p2
   try clear hcz5
   try clear hcz7
   try clear hfz5
   try clear hfz7
   obtain ⟨x13_1, rfl, HA, HK1, BK470, HB⟩ := hrel
   cases gk with
   | zero => exact absurd HA.out (by simp [impl_RingOk.l0])
   | succ k1 =>
    have H := HA.out
    clear HA
    simp only [impl_RingOk.l0] at H
    by_cases c8 : x13_1 < (l0_0.length : Int)
    ·rw [if_pos c8] at H
     have c8b0 : decide (x13_1 < (l0_0.length : Int)) = true := decide_eq_true c8
     clear c8
     (first | rw [c8b0] | (simp only [i64_w, i32_w]; rw [c8b0]) | (have cz_ := c8b0; simp only [Int.ofNat_lt, Int.ofNat_le, gt_iff_lt, ge_iff_le] at cz_; rw [cz_]; clear cz_) | skip)
     obtain ⟨c9b0, H⟩ := ifd_ H
     obtain ⟨c10b0, H⟩ := ifd_ H
     have HC11 := aa_ H
     clear H
     have p472 : 0 ≤ (x13_1 : Int) := od_
     have q472 : x13_1 < (l0_0.length : Int) := od_
     obtain ⟨ad472, A472_3, c472_3, A472_4, c472_4, A472_5, c472_5, e472, hx472_0, hx472_1, hx472_2, hx472_3, hx472_4, hx472_5, hl472_3, hi472_3, hl472_4, hi472_4, hl472_5, hi472_5⟩ := at_T68 HR0_0.out x13_1 p472 q472
     cases e472
     replace hx472_0 := cb_ HB hx472_0
     replace hx472_1 := cb_ HB hx472_1
     replace hx472_2 := cb_ HB hx472_2
     replace hx472_3 := cb_ HB hx472_3
     replace hx472_4 := cb_ HB hx472_4
     replace hx472_5 := cb_ HB hx472_5
     have HR472_3 := aa_ hi472_3
     have HC472_3 := aa_ hl472_3
     clear hi472_3 hl472_3
     have HR472_4 := aa_ hi472_4
     have HC472_4 := aa_ hl472_4
     clear hi472_4 hl472_4
     have HR472_5 := aa_ hi472_5
     have HC472_5 := aa_ hl472_5
     clear hi472_5 hl472_5
     replace p472 := eq_true p472
     replace q472 := eq_true q472
     go_upto_region 6 with (first | ((with_reducible refine gD_ 4 rfl ?_); refine bx_ (N := 4) (cs := #[.int .i64 0, .bool false, .int .i64 0, .slice none 0 0, .slice none 0 0, .slice none 0 0]) (t := 68) ?_; intro gb473 hg w12 hbox hb; have BK473 := aa_ (hbox); have GW473 := gs_ hg; have GE473 := gs_ hg; replace HB := hbs_ hb; have NB470_473 := nl_ hg BK470; have NB473_470 := nr_ hg BK470; replace BK470 := bkb_ BK470 hb; clear hb hbox hg; have hnb13 := NB473_470.out; have hnc13 := NB470_473.out; obtain ⟨hcz14, hfz14⟩ := bcf_ BK473))
     (try simp only [Act.put, sb_, sz_, ss_])
     go_cut [39] (fun v39 wc => ∃ (kq : Nat) (x39_10 : Bool), v39 = .bool x39_10 ∧ Aside0 (impl_RingOk.j1 kq x13_1 l0_0 (l0_0.length : Int) x13_1 x39_10 l0_0 ((rd_T68 l0_0 x13_1).f0) ((rd_T68 l0_0 x13_1).f1) ((rd_T68 l0_0 x13_1).f2) ((rd_T68 l0_0 x13_1).f3) ((rd_T68 l0_0 x13_1).f4) ((rd_T68 l0_0 x13_1).f5) = some r) ∧ Aside0 (kq ≤ k1) ∧ Aside0 (wc.heap[gb470]? = some (.cells #[(.slice (some ad472) l0_0.length c0_0)] 35 (0, 0))) ∧ Aside0 (wc.heap[gb473]? = some (.cells #[.int .i64 ((rd_T68 l0_0 x13_1).f0), .bool ((rd_T68 l0_0 x13_1).f1), .int .i64 ((rd_T68 l0_0 x13_1).f2), (.slice A472_3 ((rd_T68 l0_0 x13_1).f3).length c472_3), (.slice A472_4 ((rd_T68 l0_0 x13_1).f4).length c472_4), (.slice A472_5 ((rd_T68 l0_0 x13_1).f5).length c472_5)] 68 (0, 0))) ∧ Aside0 (Below w.heap.size w wc))
     case first =>
      have H := HC11.out
      clear HC11
      obtain ⟨t474, A15, H⟩ := bindE_ H
      by_cases c16 : t474 = true
      ·subst c16
       replace H := ite_t_ H
       by_cases c17 : x13_1 < 4
       ·rw [if_pos c17] at H
        have c17b0 : decide (x13_1 < 4) = true := decide_eq_true c17
        clear c17
        (first | rw [c17b0] | (simp only [i64_w, i32_w]; rw [c17b0]) | skip)
        obtain ⟨bq18, hbq18⟩ : ∃ b_ : Bool, b_ = ((rd_T68 l0_0 x13_1).f1) := ⟨_, rfl⟩
        replace H : (if (bq18 = true) then (if bq18 = true then ((impl_knowsOne.f k1 l0_0 ((rd_T68 l0_0 x13_1).f0) (bq18) ((rd_T68 l0_0 x13_1).f2) ((rd_T68 l0_0 x13_1).f3) ((rd_T68 l0_0 x13_1).f4) ((rd_T68 l0_0 x13_1).f5)).bind fun t475 => (impl_RingOk.j1 k1 x13_1 l0_0 (l0_0.length : Int) x13_1 (!t475) l0_0 ((rd_T68 l0_0 x13_1).f0) bq18 ((rd_T68 l0_0 x13_1).f2) ((rd_T68 l0_0 x13_1).f3) ((rd_T68 l0_0 x13_1).f4) ((rd_T68 l0_0 x13_1).f5))) else (impl_RingOk.j1 k1 x13_1 l0_0 (l0_0.length : Int) x13_1 false l0_0 ((rd_T68 l0_0 x13_1).f0) bq18 ((rd_T68 l0_0 x13_1).f2) ((rd_T68 l0_0 x13_1).f3) ((rd_T68 l0_0 x13_1).f4) ((rd_T68 l0_0 x13_1).f5))) else (impl_RingOk.j1 k1 x13_1 l0_0 (l0_0.length : Int) x13_1 true l0_0 ((rd_T68 l0_0 x13_1).f0) bq18 ((rd_T68 l0_0 x13_1).f2) ((rd_T68 l0_0 x13_1).f3) ((rd_T68 l0_0 x13_1).f4) ((rd_T68 l0_0 x13_1).f5))) = some r := by rw [← hbq18] at H; exact H
        have Nbq18 := aa_ hbq18
        clear hbq18
        by_cases c19 : (bq18 = true)
        ·subst c19
         have hbe_ := Nbq18.out
         replace A15 := aa_ (by have h_ := A15.out; rw [← hbe_] at h_; exact h_)
         (try rw [← hbe_])
         clear hbe_
         replace H := ite_t_ H
         replace H := ite_t_ H
         obtain ⟨t475, A20, H⟩ := bindE_ H
         have H' := aa_ H
         clear H
         have hnb21 := NB473_470.out
         have hnc21 := NB470_473.out
         have hcz22 := blk_cell BK473.out
         have hfz22 := blk_frozen BK473.out
         go_wp2_with (first | ((with_reducible refine gC_ 42 rfl ?_); refine goesC_ (some 19) Tryz.func42 #[.agg #[.int .i64 ((rd_T68 l0_0 x13_1).f0), .bool true, .int .i64 ((rd_T68 l0_0 x13_1).f2), .slice A472_3 ((rd_T68 l0_0 x13_1).f3).length c472_3, .slice A472_4 ((rd_T68 l0_0 x13_1).f4).length c472_4, .slice A472_5 ((rd_T68 l0_0 x13_1).f5).length c472_5]] ?_; (with_reducible refine (impl_PeerOk.calls k1 ((rd_T68 l0_0 x13_1).f0) true ((rd_T68 l0_0 x13_1).f2) _ _ ((rd_T68 l0_0 x13_1).f3) _ _ ((rd_T68 l0_0 x13_1).f4) _ _ ((rd_T68 l0_0 x13_1).f5) true _ ?side1 ?side2 ?side3 ?side4 ?side5 ?side6 A15.out).mono ?_); (case side1 => exact Kd.C_below HR472_3.out bl_); (case side2 => exact HC472_3.out); (case side3 => exact Kd.C_below HR472_4.out bl_); (case side4 => exact HC472_4.out); (case side5 => exact Kd.C_below HR472_5.out bl_); (case side6 => exact HC472_5.out); rintro e w23 ⟨rfl, hb⟩; refine ⟨_, rfl, ?_⟩; replace BK470 := aa_ (blk_below (g := gb470) (o := .cells #[.slice (some ad472) l0_0.length c0_0] 35 (0, 0)) (bk_ BK470) hb); replace BK473 := aa_ (blk_below (g := gb473) (o := .cells #[.int .i64 ((rd_T68 l0_0 x13_1).f0), .bool true, .int .i64 ((rd_T68 l0_0 x13_1).f2), .slice A472_3 ((rd_T68 l0_0 x13_1).f3).length c472_3, .slice A472_4 ((rd_T68 l0_0 x13_1).f4).length c472_4, .slice A472_5 ((rd_T68 l0_0 x13_1).f5).length c472_5] 68 (0, 0)) (bk_ BK473) hb); replace HB := hbs_ hb; clear hb; obtain ⟨hcz24, hfz24⟩ := bcf_ BK473; obtain ⟨hcz25, hfz25⟩ := bcf_ BK470) | (go_at_call 43; (with_reducible refine (impl_knowsOne.calls k1 _ _ l0_0 ((rd_T68 l0_0 x13_1).f0) true ((rd_T68 l0_0 x13_1).f2) _ _ ((rd_T68 l0_0 x13_1).f3) _ _ ((rd_T68 l0_0 x13_1).f4) _ _ ((rd_T68 l0_0 x13_1).f5) t475 _ ?side1 ?side2 ?side3 ?side4 ?side5 ?side6 ?side7 ?side8 A20.out).mono ?_); (case side1 => repeat (first | exact (Kd.C_below HR0_0.out HB.out) | (with_reducible refine Kd.C_alloc ?_ _) | (with_reducible refine Kd.C_drewN ?_ _) | (with_reducible refine Kd.C_drew ?_))); (case side2 => exact HC0_0.out); (case side3 => repeat (first | exact (Kd.C_below HR472_3.out HB.out) | (with_reducible refine Kd.C_alloc ?_ _) | (with_reducible refine Kd.C_drewN ?_ _) | (with_reducible refine Kd.C_drew ?_))); (case side4 => exact HC472_3.out); (case side5 => repeat (first | exact (Kd.C_below HR472_4.out HB.out) | (with_reducible refine Kd.C_alloc ?_ _) | (with_reducible refine Kd.C_drewN ?_ _) | (with_reducible refine Kd.C_drew ?_))); (case side6 => exact HC472_4.out); (case side7 => repeat (first | exact (Kd.C_below HR472_5.out HB.out) | (with_reducible refine Kd.C_alloc ?_ _) | (with_reducible refine Kd.C_drewN ?_ _) | (with_reducible refine Kd.C_drew ?_))); (case side8 => exact HC472_5.out); rintro e w26 ⟨rfl, hb⟩; replace BK470 := bkb_ BK470 hb; replace BK473 := bkb_ BK473 hb; replace HB := hbs_ hb; clear hb))
         go_meet
         case rel => (try rw [← Nbq18.out]); exact ⟨_, (!t475), rf_, H', ⟨by have := HK1.out; first | omega | exact Nat.le_refl _⟩, ⟨bk_ BK470⟩, ⟨bk_ BK473⟩, ⟨bl_⟩⟩
        ·replace c19 := Bool.eq_false_iff.mpr c19
         subst c19
         have hbe_ := Nbq18.out
         replace A15 := aa_ (by have h_ := A15.out; rw [← hbe_] at h_; exact h_)
         (try rw [← hbe_])
         clear hbe_
         replace H := ite_f_ H
         have H' := aa_ H
         clear H
         have hnb27 := NB473_470.out
         have hnc27 := NB470_473.out
         have hcz28 := blk_cell BK473.out
         have hfz28 := blk_frozen BK473.out
         go_wp2_with (first | ((with_reducible refine gC_ 42 rfl ?_); refine goesC_ (some 19) Tryz.func42 #[.agg #[.int .i64 ((rd_T68 l0_0 x13_1).f0), .bool false, .int .i64 ((rd_T68 l0_0 x13_1).f2), .slice A472_3 ((rd_T68 l0_0 x13_1).f3).length c472_3, .slice A472_4 ((rd_T68 l0_0 x13_1).f4).length c472_4, .slice A472_5 ((rd_T68 l0_0 x13_1).f5).length c472_5]] ?_; (with_reducible refine (impl_PeerOk.calls k1 ((rd_T68 l0_0 x13_1).f0) false ((rd_T68 l0_0 x13_1).f2) _ _ ((rd_T68 l0_0 x13_1).f3) _ _ ((rd_T68 l0_0 x13_1).f4) _ _ ((rd_T68 l0_0 x13_1).f5) true _ ?side1 ?side2 ?side3 ?side4 ?side5 ?side6 A15.out).mono ?_); (case side1 => exact Kd.C_below HR472_3.out bl_); (case side2 => exact HC472_3.out); (case side3 => exact Kd.C_below HR472_4.out bl_); (case side4 => exact HC472_4.out); (case side5 => exact Kd.C_below HR472_5.out bl_); (case side6 => exact HC472_5.out); rintro e w29 ⟨rfl, hb⟩; refine ⟨_, rfl, ?_⟩; replace BK470 := aa_ (blk_below (g := gb470) (o := .cells #[.slice (some ad472) l0_0.length c0_0] 35 (0, 0)) (bk_ BK470) hb); replace BK473 := aa_ (blk_below (g := gb473) (o := .cells #[.int .i64 ((rd_T68 l0_0 x13_1).f0), .bool false, .int .i64 ((rd_T68 l0_0 x13_1).f2), .slice A472_3 ((rd_T68 l0_0 x13_1).f3).length c472_3, .slice A472_4 ((rd_T68 l0_0 x13_1).f4).length c472_4, .slice A472_5 ((rd_T68 l0_0 x13_1).f5).length c472_5] 68 (0, 0)) (bk_ BK473) hb); replace HB := hbs_ hb; clear hb; obtain ⟨hcz30, hfz30⟩ := bcf_ BK473))
         go_meet
         case rel => (try rw [← Nbq18.out]); exact ⟨_, (true), rf_, H', ⟨by have := HK1.out; first | omega | exact Nat.le_refl _⟩, ⟨bk_ BK470⟩, ⟨bk_ BK473⟩, ⟨bl_⟩⟩
       ·rw [if_neg c17] at H
        have c17b0 : decide (x13_1 < 4) = false := decide_eq_false c17
        clear c17
        (first | rw [c17b0] | (simp only [i64_w, i32_w]; rw [c17b0]) | skip)
        obtain ⟨bq31, hbq31⟩ : ∃ b_ : Bool, b_ = ((rd_T68 l0_0 x13_1).f1) := ⟨_, rfl⟩
        replace H : (if bq31 = true then ((impl_knowsOne.f k1 l0_0 ((rd_T68 l0_0 x13_1).f0) (bq31) ((rd_T68 l0_0 x13_1).f2) ((rd_T68 l0_0 x13_1).f3) ((rd_T68 l0_0 x13_1).f4) ((rd_T68 l0_0 x13_1).f5)).bind fun t476 => (impl_RingOk.j1 k1 x13_1 l0_0 (l0_0.length : Int) x13_1 (!t476) l0_0 ((rd_T68 l0_0 x13_1).f0) bq31 ((rd_T68 l0_0 x13_1).f2) ((rd_T68 l0_0 x13_1).f3) ((rd_T68 l0_0 x13_1).f4) ((rd_T68 l0_0 x13_1).f5))) else (impl_RingOk.j1 k1 x13_1 l0_0 (l0_0.length : Int) x13_1 false l0_0 ((rd_T68 l0_0 x13_1).f0) bq31 ((rd_T68 l0_0 x13_1).f2) ((rd_T68 l0_0 x13_1).f3) ((rd_T68 l0_0 x13_1).f4) ((rd_T68 l0_0 x13_1).f5))) = some r := by rw [← hbq31] at H; exact H
        have Nbq31 := aa_ hbq31
        clear hbq31
        by_cases c32 : bq31 = true
        ·subst c32
         have hbe_ := Nbq31.out
         replace A15 := aa_ (by have h_ := A15.out; rw [← hbe_] at h_; exact h_)
         (try rw [← hbe_])
         clear hbe_
         replace H := ite_t_ H
         obtain ⟨t476, A33, H⟩ := bindE_ H
         have H' := aa_ H
         clear H
         have hnb34 := NB473_470.out
         have hnc34 := NB470_473.out
         have hcz35 := blk_cell BK473.out
         have hfz35 := blk_frozen BK473.out
         go_wp2_with (first | ((with_reducible refine gC_ 42 rfl ?_); refine goesC_ (some 19) Tryz.func42 #[.agg #[.int .i64 ((rd_T68 l0_0 x13_1).f0), .bool true, .int .i64 ((rd_T68 l0_0 x13_1).f2), .slice A472_3 ((rd_T68 l0_0 x13_1).f3).length c472_3, .slice A472_4 ((rd_T68 l0_0 x13_1).f4).length c472_4, .slice A472_5 ((rd_T68 l0_0 x13_1).f5).length c472_5]] ?_; (with_reducible refine (impl_PeerOk.calls k1 ((rd_T68 l0_0 x13_1).f0) true ((rd_T68 l0_0 x13_1).f2) _ _ ((rd_T68 l0_0 x13_1).f3) _ _ ((rd_T68 l0_0 x13_1).f4) _ _ ((rd_T68 l0_0 x13_1).f5) true _ ?side1 ?side2 ?side3 ?side4 ?side5 ?side6 A15.out).mono ?_); (case side1 => exact Kd.C_below HR472_3.out bl_); (case side2 => exact HC472_3.out); (case side3 => exact Kd.C_below HR472_4.out bl_); (case side4 => exact HC472_4.out); (case side5 => exact Kd.C_below HR472_5.out bl_); (case side6 => exact HC472_5.out); rintro e w36 ⟨rfl, hb⟩; refine ⟨_, rfl, ?_⟩; replace BK470 := aa_ (blk_below (g := gb470) (o := .cells #[.slice (some ad472) l0_0.length c0_0] 35 (0, 0)) (bk_ BK470) hb); replace BK473 := aa_ (blk_below (g := gb473) (o := .cells #[.int .i64 ((rd_T68 l0_0 x13_1).f0), .bool true, .int .i64 ((rd_T68 l0_0 x13_1).f2), .slice A472_3 ((rd_T68 l0_0 x13_1).f3).length c472_3, .slice A472_4 ((rd_T68 l0_0 x13_1).f4).length c472_4, .slice A472_5 ((rd_T68 l0_0 x13_1).f5).length c472_5] 68 (0, 0)) (bk_ BK473) hb); replace HB := hbs_ hb; clear hb; obtain ⟨hcz37, hfz37⟩ := bcf_ BK473; obtain ⟨hcz38, hfz38⟩ := bcf_ BK470) | (go_at_call 43; (with_reducible refine (impl_knowsOne.calls k1 _ _ l0_0 ((rd_T68 l0_0 x13_1).f0) true ((rd_T68 l0_0 x13_1).f2) _ _ ((rd_T68 l0_0 x13_1).f3) _ _ ((rd_T68 l0_0 x13_1).f4) _ _ ((rd_T68 l0_0 x13_1).f5) t476 _ ?side1 ?side2 ?side3 ?side4 ?side5 ?side6 ?side7 ?side8 A33.out).mono ?_); (case side1 => repeat (first | exact (Kd.C_below HR0_0.out HB.out) | (with_reducible refine Kd.C_alloc ?_ _) | (with_reducible refine Kd.C_drewN ?_ _) | (with_reducible refine Kd.C_drew ?_))); (case side2 => exact HC0_0.out); (case side3 => repeat (first | exact (Kd.C_below HR472_3.out HB.out) | (with_reducible refine Kd.C_alloc ?_ _) | (with_reducible refine Kd.C_drewN ?_ _) | (with_reducible refine Kd.C_drew ?_))); (case side4 => exact HC472_3.out); (case side5 => repeat (first | exact (Kd.C_below HR472_4.out HB.out) | (with_reducible refine Kd.C_alloc ?_ _) | (with_reducible refine Kd.C_drewN ?_ _) | (with_reducible refine Kd.C_drew ?_))); (case side6 => exact HC472_4.out); (case side7 => repeat (first | exact (Kd.C_below HR472_5.out HB.out) | (with_reducible refine Kd.C_alloc ?_ _) | (with_reducible refine Kd.C_drewN ?_ _) | (with_reducible refine Kd.C_drew ?_))); (case side8 => exact HC472_5.out); rintro e w39 ⟨rfl, hb⟩; replace BK470 := bkb_ BK470 hb; replace BK473 := bkb_ BK473 hb; replace HB := hbs_ hb; clear hb))
         go_meet
         case rel => (try rw [← Nbq31.out]); exact ⟨_, (!t476), rf_, H', ⟨by have := HK1.out; first | omega | exact Nat.le_refl _⟩, ⟨bk_ BK470⟩, ⟨bk_ BK473⟩, ⟨bl_⟩⟩
        ·replace c32 := Bool.eq_false_iff.mpr c32
         subst c32
         have hbe_ := Nbq31.out
         replace A15 := aa_ (by have h_ := A15.out; rw [← hbe_] at h_; exact h_)
         (try rw [← hbe_])
         clear hbe_
         replace H := ite_f_ H
         have H' := aa_ H
         clear H
         have hnb40 := NB473_470.out
         have hnc40 := NB470_473.out
         have hcz41 := blk_cell BK473.out
         have hfz41 := blk_frozen BK473.out
         go_wp2_with (first | ((with_reducible refine gC_ 42 rfl ?_); refine goesC_ (some 19) Tryz.func42 #[.agg #[.int .i64 ((rd_T68 l0_0 x13_1).f0), .bool false, .int .i64 ((rd_T68 l0_0 x13_1).f2), .slice A472_3 ((rd_T68 l0_0 x13_1).f3).length c472_3, .slice A472_4 ((rd_T68 l0_0 x13_1).f4).length c472_4, .slice A472_5 ((rd_T68 l0_0 x13_1).f5).length c472_5]] ?_; (with_reducible refine (impl_PeerOk.calls k1 ((rd_T68 l0_0 x13_1).f0) false ((rd_T68 l0_0 x13_1).f2) _ _ ((rd_T68 l0_0 x13_1).f3) _ _ ((rd_T68 l0_0 x13_1).f4) _ _ ((rd_T68 l0_0 x13_1).f5) true _ ?side1 ?side2 ?side3 ?side4 ?side5 ?side6 A15.out).mono ?_); (case side1 => exact Kd.C_below HR472_3.out bl_); (case side2 => exact HC472_3.out); (case side3 => exact Kd.C_below HR472_4.out bl_); (case side4 => exact HC472_4.out); (case side5 => exact Kd.C_below HR472_5.out bl_); (case side6 => exact HC472_5.out); rintro e w42 ⟨rfl, hb⟩; refine ⟨_, rfl, ?_⟩; replace BK470 := aa_ (blk_below (g := gb470) (o := .cells #[.slice (some ad472) l0_0.length c0_0] 35 (0, 0)) (bk_ BK470) hb); replace BK473 := aa_ (blk_below (g := gb473) (o := .cells #[.int .i64 ((rd_T68 l0_0 x13_1).f0), .bool false, .int .i64 ((rd_T68 l0_0 x13_1).f2), .slice A472_3 ((rd_T68 l0_0 x13_1).f3).length c472_3, .slice A472_4 ((rd_T68 l0_0 x13_1).f4).length c472_4, .slice A472_5 ((rd_T68 l0_0 x13_1).f5).length c472_5] 68 (0, 0)) (bk_ BK473) hb); replace HB := hbs_ hb; clear hb; obtain ⟨hcz43, hfz43⟩ := bcf_ BK473))
         go_meet
         case rel => (try rw [← Nbq31.out]); exact ⟨_, (false), rf_, H', ⟨by have := HK1.out; first | omega | exact Nat.le_refl _⟩, ⟨bk_ BK470⟩, ⟨bk_ BK473⟩, ⟨bl_⟩⟩
      ·replace c16 := Bool.eq_false_iff.mpr c16
       subst c16
       replace H := ite_f_ H
       have H' := aa_ H
       clear H
       have hnb44 := NB473_470.out
       have hnc44 := NB470_473.out
       have hcz45 := blk_cell BK473.out
       have hfz45 := blk_frozen BK473.out
       go_wp2_with (first | ((with_reducible refine gC_ 42 rfl ?_); refine goesC_ (some 19) Tryz.func42 #[.agg #[.int .i64 ((rd_T68 l0_0 x13_1).f0), .bool ((rd_T68 l0_0 x13_1).f1), .int .i64 ((rd_T68 l0_0 x13_1).f2), .slice A472_3 ((rd_T68 l0_0 x13_1).f3).length c472_3, .slice A472_4 ((rd_T68 l0_0 x13_1).f4).length c472_4, .slice A472_5 ((rd_T68 l0_0 x13_1).f5).length c472_5]] ?_; (with_reducible refine (impl_PeerOk.calls k1 ((rd_T68 l0_0 x13_1).f0) ((rd_T68 l0_0 x13_1).f1) ((rd_T68 l0_0 x13_1).f2) _ _ ((rd_T68 l0_0 x13_1).f3) _ _ ((rd_T68 l0_0 x13_1).f4) _ _ ((rd_T68 l0_0 x13_1).f5) false _ ?side1 ?side2 ?side3 ?side4 ?side5 ?side6 A15.out).mono ?_); (case side1 => exact Kd.C_below HR472_3.out bl_); (case side2 => exact HC472_3.out); (case side3 => exact Kd.C_below HR472_4.out bl_); (case side4 => exact HC472_4.out); (case side5 => exact Kd.C_below HR472_5.out bl_); (case side6 => exact HC472_5.out); rintro e w46 ⟨rfl, hb⟩; refine ⟨_, rfl, ?_⟩; replace BK470 := aa_ (blk_below (g := gb470) (o := .cells #[.slice (some ad472) l0_0.length c0_0] 35 (0, 0)) (bk_ BK470) hb); replace BK473 := aa_ (blk_below (g := gb473) (o := .cells #[.int .i64 ((rd_T68 l0_0 x13_1).f0), .bool ((rd_T68 l0_0 x13_1).f1), .int .i64 ((rd_T68 l0_0 x13_1).f2), .slice A472_3 ((rd_T68 l0_0 x13_1).f3).length c472_3, .slice A472_4 ((rd_T68 l0_0 x13_1).f4).length c472_4, .slice A472_5 ((rd_T68 l0_0 x13_1).f5).length c472_5] 68 (0, 0)) (bk_ BK473) hb); replace HB := hbs_ hb; clear hb))
       go_meet
       case rel => exact ⟨_, (true), rf_, H', ⟨by have := HK1.out; first | omega | exact Nat.le_refl _⟩, ⟨bk_ BK470⟩, ⟨bk_ BK473⟩, ⟨bl_⟩⟩
     case rest =>
      clear HC11
      try clear q1
      try clear p2
      try clear q3
      try clear p4
      try clear q4
      try clear hx4
      try clear c8b0
      try clear c9b0
      try clear c10b0
      try clear c17b0
      try clear q18
      try clear q31
      try clear hcz14
      try clear hcz22
      try clear hcz24
      try clear hcz25
      try clear hcz28
      try clear hcz30
      try clear hcz35
      try clear hcz37
      try clear hcz38
      try clear hcz41
      try clear hcz43
      try clear hcz45
      try clear hcz5
      try clear hcz7
      try clear hfz14
      try clear hfz22
      try clear hfz24
      try clear hfz25
      try clear hfz28
      try clear hfz30
      try clear hfz35
      try clear hfz37
      try clear hfz38
      try clear hfz41
      try clear hfz43
      try clear hfz45
      try clear hfz5
      try clear hfz7
      try clear hx472_0
      try clear hx472_1
      try clear hx472_2
      try clear hx472_3
      try clear hx472_4
      try clear hx472_5
      try clear p2
      try clear p472
      try clear q472
      obtain ⟨kq, x39_10, rfl, HA, HJ10, BK470, BK473, HB⟩ := hcut
      cases kq with
      | zero => exact absurd HA.out (by simp [impl_RingOk.j1])
      | succ kj10 =>
       have H := HA.out
       clear HA
       simp only [impl_RingOk.j1] at H
       by_cases c47 : x39_10 = true
       ·subst c47
        replace H := ite_t_ H
        obtain rfl := Option.some.inj H
        go_wp2
        go_ret
        exact ⟨eq_, bl_⟩
       ·replace c47 := Bool.eq_false_iff.mpr c47
        subst c47
        replace H := ite_f_ H
        obtain ⟨c48, H⟩ := ifn_ H
        have c48b0 := eq_true c48
        have c48b1 : decide (0 ≤ x13_1) = true := decide_eq_true c48
        clear c48
        obtain ⟨c49, H⟩ := ifn_ H
        have c49b0 := eq_true c49
        have c49b1 : decide (x13_1 ≤ (l0_0.length : Int)) = true := decide_eq_true c49
        clear c49
        obtain ⟨y477, hy477⟩ : ∃ y_ : List (S68), y_ = (l0_0.take (x13_1 : Int).toNat) := ⟨_, rfl⟩
        replace H : ((impl_Peer_44.f kj10 y477 (clo45 ((rd_T68 l0_0 x13_1).f0))).bind fun t481 => (if t481 = true then (some false) else (impl_RingOk.l0 kj10 l0_0 (l0_0.length : Int) (wrap64 (x13_1 + 1)) l0_0))) = some r := rh_ hy477 H
        have Ny477 := aa_ hy477
        clear hy477
        obtain ⟨t481, A50, H⟩ := bindE_ H
        have HC51 := aa_ H
        clear H
        have hnb52 := NB470_473.out
        have hnc52 := NB473_470.out
        have hcz53 := blk_cell BK470.out
        have hfz53 := blk_frozen BK470.out
        have q54 : (x13_1 : Int) ≤ ((l0_0.length : Int) : Int) := od_
        obtain ⟨i054, hi054, _, hsz54, _⟩ := info_parts info68
        have hroom54 : l0_0.length ≤ c0_0 := HC0_0.out
        have hC54 : Kd.C k68 _ (some ad472) l0_0.length l0_0 := HR0_0.out
        have hcut54 := cut_to (P := Tryz.prog) 33 68 .i64 Tryz.underlying33 hi054 (some ad472) l0_0.length c0_0 x13_1 (od_) q54 hroom54
        have hr54 := Kd.C_take (m := (x13_1 : Int).toNat) hC54 (by omega)
        have hy54 : y477.length = (x13_1 : Int).toNat := (by rw [Ny477.out, List.length_take]; omega)
        rw [← Ny477.out] at hr54
        rw [← hy54] at hcut54
        have HR480 := aa_ hr54
        have HC480 := aa_ (show y477.length ≤ c0_0 from by omega)
        clear hr54 hC54 hroom54 hi054 hsz54
        have KY54 := aa_ hy54
        clear hy54
        replace q54 := eq_true q54
        go_upto_if 45 with (first | ((with_reducible refine gC_ 44 rfl ?_); refine goesC_ (some 45) Tryz.func44 #[.slice (some ad472) y477.length c0_0, .func (.func 45) #[] #[.pointer (some ⟨gb473, 0, none⟩)]] ?_; (with_reducible refine (impl_Peer_44.calls kj10 _ _ y477 (clo45 ((rd_T68 l0_0 x13_1).f0)) 45 #[.pointer (some ⟨gb473, 0, none⟩)] t481 _ ?side1 ?side2 ?side3 A50.out).mono ?_); (case side1 => repeat (first | exact (Kd.C_below HR480.out HB.out) | (with_reducible refine Kd.C_alloc ?_ _) | (with_reducible refine Kd.C_drewN ?_ _) | (with_reducible refine Kd.C_drew ?_))); (case side2 => exact HC480.out); (case side3 => exact fun W_ hW_ => clo45_ok _ _ (bkb_ BK473 hW_).out rfl); rintro e w55 ⟨rfl, hb⟩; refine ⟨_, rfl, ?_⟩; replace BK470 := bkb_ BK470 hb; replace BK473 := bkb_ BK473 hb; replace HB := hbs_ hb; clear hb))
        (try simp only [Act.put, sb_, sz_, ss_])
        have H := HC51.out
        clear HC51
        by_cases c56 : t481 = true
        ·subst c56
         replace H := ite_t_ H
         obtain rfl := Option.some.inj H
         go_wp2
         go_ret
         exact ⟨eq_, bl_⟩
        ·replace c56 := Bool.eq_false_iff.mpr c56
         subst c56
         replace H := ite_f_ H
         have H' := aa_ H
         clear H
         go_wp2
         go_roundg kj10
         case measure => have := HK1.out; have := HJ10.out; omega
         case rel => exact ⟨(wrap64 (x13_1 + 1)), rf_, H', ⟨by have := HK1.out; have := HJ10.out; omega⟩, ⟨bk_ BK470⟩, ⟨bl_⟩⟩
    ·rw [if_neg c8] at H
     have c8b0 : decide (x13_1 < (l0_0.length : Int)) = false := decide_eq_false c8
     clear c8
     (first | rw [c8b0] | (simp only [i64_w, i32_w]; rw [c8b0]) | (have cz_ := c8b0; simp only [Int.ofNat_lt, Int.ofNat_le, gt_iff_lt, ge_iff_le] at cz_; rw [cz_]; clear cz_) | skip)
     obtain rfl := Option.some.inj H
     go_wp2
     go_ret
     exact ⟨eq_, bl_⟩
 ·replace c6 := Bool.eq_false_iff.mpr c6
  subst c6
  replace H := ite_f_ H
  obtain rfl := Option.some.inj H
  go_wp2
  go_ret
  exact ⟨eq_, bl_⟩
def impl_Cred_76.l0 : Nat → List (S83) → Int → Int → Int → Int → Int → Int → Int → Int → Int → Int → Int → Int → Option (Int)
 | 0, _, _, _, _, _, _, _, _, _, _, _, _, _ => none
 | k + 1, x0, x7, x8, x483000, x483001, x483002, x483003, x483004, x483005, x483006, x483007, x483008, x483009 => if x8 < x7 then (if 0 ≤ x8 then (if x8 < (x0.length : Int) then (if (x483000 == ((rd_T83 x0 x8).f0) && ((x483001 == ((rd_T83 x0 x8).f1.f0) && (x483002 == ((rd_T83 x0 x8).f1.f1))) && (x483003 == ((rd_T83 x0 x8).f2) && ((x483004 == ((rd_T83 x0 x8).f3.f0) && (x483005 == ((rd_T83 x0 x8).f3.f1))) && ((x483006 == ((rd_T83 x0 x8).f4.f0) && (x483007 == ((rd_T83 x0 x8).f4.f1))) && (x483008 == ((rd_T83 x0 x8).f5) && (x483009 == ((rd_T83 x0 x8).f6)))))))) = true then (some x8) else (impl_Cred_76.l0 k x0 x7 (wrap64 (x8 + 1)) x483000 x483001 x483002 x483003 x483004 x483005 x483006 x483007 x483008 x483009)) else (none)) else (none)) else (some (-1))
def impl_Cred_76.f (k : Nat) (l0 : List (S83)) (a1_0 : Int) (a1_1 : Int) (a1_2 : Int) (a1_3 : Int) (a1_4 : Int) (a1_5 : Int) (a1_6 : Int) (a1_7 : Int) (a1_8 : Int) (a1_9 : Int) : Option (Int) := impl_Cred_76.l0 k l0 (l0.length : Int) 0 a1_0 a1_1 a1_2 a1_3 a1_4 a1_5 a1_6 a1_7 a1_8 a1_9
theorem impl_Cred_76.mono_l : ∀ k, (∀ y0 y1 y2 y3 y4 y5 y6 y7 y8 y9 y10 y11 y12, LeO (impl_Cred_76.l0 k y0 y1 y2 y3 y4 y5 y6 y7 y8 y9 y10 y11 y12) (impl_Cred_76.l0 (k + 1) y0 y1 y2 y3 y4 y5 y6 y7 y8 y9 y10 y11 y12))
 | 0 => fun _ _ _ _ _ _ _ _ _ _ _ _ _ r h => by simp [impl_Cred_76.l0] at h
 | k + 1 => by
  have ih0 := impl_Cred_76.mono_l k
  ·intro y0 y1 y2 y3 y4 y5 y6 y7 y8 y9 y10 y11 y12
   unfold impl_Cred_76.l0
   repeat' first | (with_reducible first | exact ih0 _ _ _ _ _ _ _ _ _ _ _ _ _ | exact LeO.refl _ | exact LeO.none _ | refine LeO.ite ?_ ?_ | refine LeO.bind ?_ (fun _ => ?_)) | exact ih0 _ _ _ _ _ _ _ _ _ _ _ _ _ | exact LeO.none _ | refine LeO.ite ?_ ?_ | refine LeO.bind ?_ (fun _ => ?_)
theorem impl_Cred_76.mono : ∀ a0 a1 a2 a3 a4 a5 a6 a7 a8 a9 a10 k, LeO (impl_Cred_76.f k a0 a1 a2 a3 a4 a5 a6 a7 a8 a9 a10) (impl_Cred_76.f (k + 1) a0 a1 a2 a3 a4 a5 a6 a7 a8 a9 a10) := by
 intro a0 a1 a2 a3 a4 a5 a6 a7 a8 a9 a10 k
 have ih0 := impl_Cred_76.mono_l k
 unfold impl_Cred_76.f
 repeat' first | (with_reducible first | exact ih0 _ _ _ _ _ _ _ _ _ _ _ _ _ | exact LeO.refl _ | exact LeO.none _ | refine LeO.ite ?_ ?_ | refine LeO.bind ?_ (fun _ => ?_)) | exact ih0 _ _ _ _ _ _ _ _ _ _ _ _ _ | exact LeO.none _ | refine LeO.ite ?_ ?_ | refine LeO.bind ?_ (fun _ => ?_)
set_option maxHeartbeats 8000000 in
set_option maxRecDepth 100000 in
theorem impl_Cred_76.calls (k : Nat) (A0 : Option Addr) (c0 : Nat) (l0 : List (S83)) (a1_0 : Int) (a1_1 : Int) (a1_2 : Int) (a1_3 : Int) (a1_4 : Int) (a1_5 : Int) (a1_6 : Int) (a1_7 : Int) (a1_8 : Int) (a1_9 : Int) (r : Int) (w : World) (hr0 : Kd.C k83 w A0 l0.length l0) (hc0 : l0.length ≤ c0) (h : impl_Cred_76.f k l0 a1_0 a1_1 a1_2 a1_3 a1_4 a1_5 a1_6 a1_7 a1_8 a1_9 = some r) :
  Calls Tryz.prog 76 #[.slice A0 l0.length c0, .agg #[.int .i64 a1_0, .int .i64 a1_1, .int .i64 a1_2, .int .i64 a1_3, .int .i64 a1_4, .int .i64 a1_5, .int .i64 a1_6, .int .i64 a1_7, .int .i64 a1_8, .int .i64 a1_9]] w fun e w' => e = .returned (.int .i64 r) ∧ Below w.heap.size w w' := by
 have hu83 := Tryz.underlying83
 have HR0 := aa_ hr0
 have HC0 := aa_ hc0
 clear hr0 hc0
 have HB := aa_ (Below.refl w.heap.size w)
 have H : (impl_Cred_76.l0 k l0 (l0.length : Int) 0 a1_0 a1_1 a1_2 a1_3 a1_4 a1_5 a1_6 a1_7 a1_8 a1_9) = some r := h
 clear h
 have H' := aa_ H
 clear H
 go_enter Tryz.func76, Tryz.ntmps76
 go_wp2_with (first | ((with_reducible refine gD_ 3 rfl ?_); refine bx_ (N := 3) (cs := #[.int .i64 a1_0, .int .i64 a1_1, .int .i64 a1_2, .int .i64 a1_3, .int .i64 a1_4, .int .i64 a1_5, .int .i64 a1_6, .int .i64 a1_7, .int .i64 a1_8, .int .i64 a1_9]) (t := 83) ?_; intro gb482 hg w3 hbox hb; have BK482 := aa_ (hbox); have GW482 := gs_ hg; have GE482 := gs_ hg; replace HB := hbs_ hb; clear hb hbox hg))
 repeat (go_quiet (first | ((with_reducible refine gD_ 3 rfl ?_); refine bx_ (N := 3) (cs := #[.int .i64 a1_0, .int .i64 a1_1, .int .i64 a1_2, .int .i64 a1_3, .int .i64 a1_4, .int .i64 a1_5, .int .i64 a1_6, .int .i64 a1_7, .int .i64 a1_8, .int .i64 a1_9]) (t := 83) ?_; intro gb482 hg w3 hbox hb; have BK482 := aa_ (hbox); have GW482 := gs_ hg; have GE482 := gs_ hg; replace HB := hbs_ hb; clear hb hbox hg)); try go_wp2_with (first | ((with_reducible refine gD_ 3 rfl ?_); refine bx_ (N := 3) (cs := #[.int .i64 a1_0, .int .i64 a1_1, .int .i64 a1_2, .int .i64 a1_3, .int .i64 a1_4, .int .i64 a1_5, .int .i64 a1_6, .int .i64 a1_7, .int .i64 a1_8, .int .i64 a1_9]) (t := 83) ?_; intro gb482 hg w3 hbox hb; have BK482 := aa_ (hbox); have GW482 := gs_ hg; have GE482 := gs_ hg; replace HB := hbs_ hb; clear hb hbox hg)))
 go_loopg [8] k (fun kq v8 w' => ∃ (x8_1 : Int), v8 = .int .i64 x8_1 ∧ Aside0 (impl_Cred_76.l0 kq l0 (l0.length : Int) x8_1 a1_0 a1_1 a1_2 a1_3 a1_4 a1_5 a1_6 a1_7 a1_8 a1_9 = some r) ∧ Aside0 (kq ≤ k) ∧ Aside0 (w'.heap[gb482]? = some (.cells #[.int .i64 a1_0, .int .i64 a1_1, .int .i64 a1_2, .int .i64 a1_3, .int .i64 a1_4, .int .i64 a1_5, .int .i64 a1_6, .int .i64 a1_7, .int .i64 a1_8, .int .i64 a1_9] 83 (0, 0))) ∧ Aside0 (Below w.heap.size w w'))
 case atStart => exact ⟨(0), rf_, H', ⟨Nat.le_refl _⟩, ⟨bk_ BK482⟩, ⟨bl_⟩⟩
 case round =>
  clear H'
  try clear p2
  obtain ⟨x8_1, rfl, HA, HK1, BK482, HB⟩ := hrel
  cases gk with
  | zero => exact absurd HA.out (by simp [impl_Cred_76.l0])
  | succ k1 =>
   have H := HA.out
   clear HA
   simp only [impl_Cred_76.l0] at H
   by_cases c4 : x8_1 < (l0.length : Int)
   ·rw [if_pos c4] at H
    have c4b0 : decide (x8_1 < (l0.length : Int)) = true := decide_eq_true c4
    clear c4
    obtain ⟨c5b0, H⟩ := ifd_ H
    obtain ⟨c6b0, H⟩ := ifd_ H
    have HC7 := aa_ H
    clear H
    have hcz8 := blk_cell BK482.out
    have hfz8 := blk_frozen BK482.out
    have p483 : 0 ≤ (x8_1 : Int) := od_
    have q483 : x8_1 < (l0.length : Int) := od_
    obtain ⟨ad483, e483, hx483_0, hx483_1, hx483_2, hx483_3, hx483_4, hx483_5, hx483_6, hx483_7, hx483_8, hx483_9⟩ := at_T83 (Kd.C_below HR0.out HB.out) x8_1 p483 q483
    cases e483
    replace p483 := eq_true p483
    replace q483 := eq_true q483
    go_upto_if 16 with (fail)
    repeat (go_quiet (fail); go_upto_if 16 with (fail))
    have H := HC7.out
    clear HC7
    by_cases c9 : (a1_0 == ((rd_T83 l0 x8_1).f0) && ((a1_1 == ((rd_T83 l0 x8_1).f1.f0) && (a1_2 == ((rd_T83 l0 x8_1).f1.f1))) && (a1_3 == ((rd_T83 l0 x8_1).f2) && ((a1_4 == ((rd_T83 l0 x8_1).f3.f0) && (a1_5 == ((rd_T83 l0 x8_1).f3.f1))) && ((a1_6 == ((rd_T83 l0 x8_1).f4.f0) && (a1_7 == ((rd_T83 l0 x8_1).f4.f1))) && (a1_8 == ((rd_T83 l0 x8_1).f5) && (a1_9 == ((rd_T83 l0 x8_1).f6)))))))) = true
    ·rw [if_pos c9] at H
     have c9b0 : (a1_0 == ((rd_T83 l0 x8_1).f0) && ((a1_1 == ((rd_T83 l0 x8_1).f1.f0) && (a1_2 == ((rd_T83 l0 x8_1).f1.f1))) && (a1_3 == ((rd_T83 l0 x8_1).f2) && ((a1_4 == ((rd_T83 l0 x8_1).f3.f0) && (a1_5 == ((rd_T83 l0 x8_1).f3.f1))) && ((a1_6 == ((rd_T83 l0 x8_1).f4.f0) && (a1_7 == ((rd_T83 l0 x8_1).f4.f1))) && (a1_8 == ((rd_T83 l0 x8_1).f5) && (a1_9 == ((rd_T83 l0 x8_1).f6)))))))) = true := c9
     (try (have c9b1 : decide (a1_0 = ((rd_T83 l0 x8_1).f0) && ((a1_1 == ((rd_T83 l0 x8_1).f1.f0) && (a1_2 == ((rd_T83 l0 x8_1).f1.f1))) && (a1_3 == ((rd_T83 l0 x8_1).f2) && ((a1_4 == ((rd_T83 l0 x8_1).f3.f0) && (a1_5 == ((rd_T83 l0 x8_1).f3.f1))) && ((a1_6 == ((rd_T83 l0 x8_1).f4.f0) && (a1_7 == ((rd_T83 l0 x8_1).f4.f1))) && (a1_8 == ((rd_T83 l0 x8_1).f5) && (a1_9 == ((rd_T83 l0 x8_1).f6)))))))) = true := by simpa using c9))
     (try (have c9b2 : (a1_0 == ((rd_T83 l0 x8_1).f0) && ((a1_1 == ((rd_T83 l0 x8_1).f1.f0) && (a1_2 == ((rd_T83 l0 x8_1).f1.f1))) && (a1_3 == ((rd_T83 l0 x8_1).f2) && ((a1_4 == ((rd_T83 l0 x8_1).f3.f0) && (a1_5 == ((rd_T83 l0 x8_1).f3.f1))) && ((a1_6 == ((rd_T83 l0 x8_1).f4.f0) && (a1_7 == ((rd_T83 l0 x8_1).f4.f1))) && (a1_8 == ((rd_T83 l0 x8_1).f5) && (a1_9 == ((rd_T83 l0 x8_1).f6)))))))) = true := by simpa using c9))
     clear c9
     (first | rw [c9b0] | (simp only [i64_w, i32_w]; rw [c9b0]) | skip)
     obtain rfl := Option.some.inj H
     go_wp2
     repeat (go_quiet (fail); try go_wp2)
     go_ret
     exact ⟨eq_, bl_⟩
    ·rw [if_neg c9] at H
     have c9b0 : (a1_0 == ((rd_T83 l0 x8_1).f0) && ((a1_1 == ((rd_T83 l0 x8_1).f1.f0) && (a1_2 == ((rd_T83 l0 x8_1).f1.f1))) && (a1_3 == ((rd_T83 l0 x8_1).f2) && ((a1_4 == ((rd_T83 l0 x8_1).f3.f0) && (a1_5 == ((rd_T83 l0 x8_1).f3.f1))) && ((a1_6 == ((rd_T83 l0 x8_1).f4.f0) && (a1_7 == ((rd_T83 l0 x8_1).f4.f1))) && (a1_8 == ((rd_T83 l0 x8_1).f5) && (a1_9 == ((rd_T83 l0 x8_1).f6)))))))) = false := by simpa using c9
     (try (have c9b1 : decide (a1_0 = ((rd_T83 l0 x8_1).f0) && ((a1_1 == ((rd_T83 l0 x8_1).f1.f0) && (a1_2 == ((rd_T83 l0 x8_1).f1.f1))) && (a1_3 == ((rd_T83 l0 x8_1).f2) && ((a1_4 == ((rd_T83 l0 x8_1).f3.f0) && (a1_5 == ((rd_T83 l0 x8_1).f3.f1))) && ((a1_6 == ((rd_T83 l0 x8_1).f4.f0) && (a1_7 == ((rd_T83 l0 x8_1).f4.f1))) && (a1_8 == ((rd_T83 l0 x8_1).f5) && (a1_9 == ((rd_T83 l0 x8_1).f6)))))))) = false := by simpa using c9))
     (try (have c9b2 : (a1_0 == ((rd_T83 l0 x8_1).f0) && ((a1_1 == ((rd_T83 l0 x8_1).f1.f0) && (a1_2 == ((rd_T83 l0 x8_1).f1.f1))) && (a1_3 == ((rd_T83 l0 x8_1).f2) && ((a1_4 == ((rd_T83 l0 x8_1).f3.f0) && (a1_5 == ((rd_T83 l0 x8_1).f3.f1))) && ((a1_6 == ((rd_T83 l0 x8_1).f4.f0) && (a1_7 == ((rd_T83 l0 x8_1).f4.f1))) && (a1_8 == ((rd_T83 l0 x8_1).f5) && (a1_9 == ((rd_T83 l0 x8_1).f6)))))))) = false := by simpa using c9))
     (try (have c9b3 : ¬ (a1_0 = ((rd_T83 l0 x8_1).f0) && ((a1_1 == ((rd_T83 l0 x8_1).f1.f0) && (a1_2 == ((rd_T83 l0 x8_1).f1.f1))) && (a1_3 == ((rd_T83 l0 x8_1).f2) && ((a1_4 == ((rd_T83 l0 x8_1).f3.f0) && (a1_5 == ((rd_T83 l0 x8_1).f3.f1))) && ((a1_6 == ((rd_T83 l0 x8_1).f4.f0) && (a1_7 == ((rd_T83 l0 x8_1).f4.f1))) && (a1_8 == ((rd_T83 l0 x8_1).f5) && (a1_9 == ((rd_T83 l0 x8_1).f6)))))))) := by simpa using c9))
     clear c9
     (first | rw [c9b0] | (simp only [i64_w, i32_w]; rw [c9b0]) | skip)
     have H' := aa_ H
     clear H
     go_wp2
     repeat (go_quiet (fail); try go_wp2)
     go_roundg k1
     case measure => have := HK1.out; omega
     case rel => exact ⟨(wrap64 (x8_1 + 1)), rf_, H', ⟨by have := HK1.out; omega⟩, ⟨bk_ BK482⟩, ⟨bl_⟩⟩
   ·rw [if_neg c4] at H
    have c4b0 : decide (x8_1 < (l0.length : Int)) = false := decide_eq_false c4
    clear c4
    obtain rfl := Option.some.inj H
    go_wp2
    repeat (go_quiet (fail); try go_wp2)
    go_ret
    exact ⟨eq_, bl_⟩
def impl_Cred_51.f (k : Nat) (l0 : List (S83)) (a1_0 : Int) (a1_1 : Int) (a1_2 : Int) (a1_3 : Int) (a1_4 : Int) (a1_5 : Int) (a1_6 : Int) (a1_7 : Int) (a1_8 : Int) (a1_9 : Int) : Option (Bool) := (impl_Cred_76.f k l0 a1_0 a1_1 a1_2 a1_3 a1_4 a1_5 a1_6 a1_7 a1_8 a1_9).bind fun t485 => (some (decide (t485 ≥ 0)))
theorem impl_Cred_51.mono : ∀ a0 a1 a2 a3 a4 a5 a6 a7 a8 a9 a10 k, LeO (impl_Cred_51.f k a0 a1 a2 a3 a4 a5 a6 a7 a8 a9 a10) (impl_Cred_51.f (k + 1) a0 a1 a2 a3 a4 a5 a6 a7 a8 a9 a10) := by
 intro a0 a1 a2 a3 a4 a5 a6 a7 a8 a9 a10 k
 unfold impl_Cred_51.f
 repeat' first | (with_reducible first | exact impl_Cred_76.mono _ _ _ _ _ _ _ _ _ _ _ _ | exact LeO.refl _ | exact LeO.none _ | refine LeO.ite ?_ ?_ | refine LeO.bind ?_ (fun _ => ?_)) | exact impl_Cred_76.mono _ _ _ _ _ _ _ _ _ _ _ _ | exact LeO.none _ | refine LeO.ite ?_ ?_ | refine LeO.bind ?_ (fun _ => ?_)
set_option maxHeartbeats 8000000 in
set_option maxRecDepth 100000 in
theorem impl_Cred_51.calls (k : Nat) (A0 : Option Addr) (c0 : Nat) (l0 : List (S83)) (a1_0 : Int) (a1_1 : Int) (a1_2 : Int) (a1_3 : Int) (a1_4 : Int) (a1_5 : Int) (a1_6 : Int) (a1_7 : Int) (a1_8 : Int) (a1_9 : Int) (r : Bool) (w : World) (hr0 : Kd.C k83 w A0 l0.length l0) (hc0 : l0.length ≤ c0) (h : impl_Cred_51.f k l0 a1_0 a1_1 a1_2 a1_3 a1_4 a1_5 a1_6 a1_7 a1_8 a1_9 = some r) :
  Calls Tryz.prog 51 #[.slice A0 l0.length c0, .agg #[.int .i64 a1_0, .int .i64 a1_1, .int .i64 a1_2, .int .i64 a1_3, .int .i64 a1_4, .int .i64 a1_5, .int .i64 a1_6, .int .i64 a1_7, .int .i64 a1_8, .int .i64 a1_9]] w fun e w' => e = .returned (.bool r) ∧ Below w.heap.size w w' := by
 have hu83 := Tryz.underlying83
 have HR0 := aa_ hr0
 have HC0 := aa_ hc0
 clear hr0 hc0
 have HB := aa_ (Below.refl w.heap.size w)
 have H : ((impl_Cred_76.f k l0 a1_0 a1_1 a1_2 a1_3 a1_4 a1_5 a1_6 a1_7 a1_8 a1_9).bind fun t485 => (some (decide (t485 ≥ 0)))) = some r := h
 clear h
 obtain ⟨t485, A3, H⟩ := bindE_ H
 obtain rfl := Option.some.inj H
 go_enter Tryz.func51, Tryz.ntmps51
 go_wp2_with (first | ((with_reducible refine gD_ 3 rfl ?_); refine bx_ (N := 3) (cs := #[.int .i64 a1_0, .int .i64 a1_1, .int .i64 a1_2, .int .i64 a1_3, .int .i64 a1_4, .int .i64 a1_5, .int .i64 a1_6, .int .i64 a1_7, .int .i64 a1_8, .int .i64 a1_9]) (t := 83) ?_; intro gb484 hg w4 hbox hb; have BK484 := aa_ (hbox); have GW484 := gs_ hg; have GE484 := gs_ hg; replace HB := hbs_ hb; clear hb hbox hg; obtain ⟨hcz5, hfz5⟩ := bcf_ BK484) | ((with_reducible refine gC_ 76 rfl ?_); refine goesC_ (some 7) Tryz.func76 #[.slice A0 l0.length c0, .agg #[.int .i64 a1_0, .int .i64 a1_1, .int .i64 a1_2, .int .i64 a1_3, .int .i64 a1_4, .int .i64 a1_5, .int .i64 a1_6, .int .i64 a1_7, .int .i64 a1_8, .int .i64 a1_9]] ?_; (with_reducible refine (impl_Cred_76.calls k _ _ l0 a1_0 a1_1 a1_2 a1_3 a1_4 a1_5 a1_6 a1_7 a1_8 a1_9 t485 _ ?side1 ?side2 A3.out).mono ?_); (case side1 => repeat (first | exact (Kd.C_below HR0.out HB.out) | (with_reducible refine Kd.C_alloc ?_ _) | (with_reducible refine Kd.C_drewN ?_ _) | (with_reducible refine Kd.C_drew ?_))); (case side2 => exact HC0.out); rintro e w6 ⟨rfl, hb⟩; refine ⟨_, rfl, ?_⟩; replace BK484 := bkb_ BK484 hb; replace HB := hbs_ hb; clear hb))
 go_ret
 exact ⟨eq_, bl_⟩
def impl_CredsIn.l0 : Nat → List (S83) → List (S111) → Int → Int → Option ((List (S83)))
 | 0, _, _, _, _ => none
 | k + 1, x3, x7, x8, x9 => if x9 < x8 then (if 0 ≤ x9 then (if x9 < (x7.length : Int) then ((impl_Cred_51.f k x3 ((rd_T111 x7 x9).f0.f0) ((rd_T111 x7 x9).f0.f1.f0) ((rd_T111 x7 x9).f0.f1.f1) ((rd_T111 x7 x9).f0.f2) ((rd_T111 x7 x9).f0.f3.f0) ((rd_T111 x7 x9).f0.f3.f1) ((rd_T111 x7 x9).f0.f4.f0) ((rd_T111 x7 x9).f0.f4.f1) ((rd_T111 x7 x9).f0.f5) ((rd_T111 x7 x9).f0.f6)).bind fun t491 => (if t491 = true then (impl_CredsIn.l0 k x3 x7 x8 (wrap64 (x9 + 1))) else (if x3.length < 1759218604441 then (impl_CredsIn.l0 k (x3 ++ [(⟨(rd_T111 x7 x9).f0.f0, (⟨(rd_T111 x7 x9).f0.f1.f0, (rd_T111 x7 x9).f0.f1.f1⟩ : S77), (rd_T111 x7 x9).f0.f2, (⟨(rd_T111 x7 x9).f0.f3.f0, (rd_T111 x7 x9).f0.f3.f1⟩ : S77), (⟨(rd_T111 x7 x9).f0.f4.f0, (rd_T111 x7 x9).f0.f4.f1⟩ : S77), (rd_T111 x7 x9).f0.f5, (rd_T111 x7 x9).f0.f6⟩ : S83)]) x7 x8 (wrap64 (x9 + 1))) else (none)))) else (none)) else (none)) else (some x3)
def impl_CredsIn.f (k : Nat) (l0 : List (S111)) : Option ((List (S83))) := impl_CredsIn.l0 k (([] : List (S83))) l0 (l0.length : Int) 0
set_option maxHeartbeats 8000000 in
set_option maxRecDepth 100000 in
theorem impl_CredsIn.calls (k : Nat) (A0 : Option Addr) (c0 : Nat) (l0 : List (S111)) (r : List (S83)) (w : World) (hr0 : Kd.C k111 w A0 l0.length l0) (hc0 : l0.length ≤ c0) (h : impl_CredsIn.f k l0 = some r) :
  Calls Tryz.prog 46 #[.slice A0 l0.length c0] w fun e w' => ∃ v0_ : Value, e = .returned (v0_) ∧ Kd.R k83 83 w' w.heap.size (fun _ => True) v0_ r ∧ Below w.heap.size w w' := by
 have hu111 := Tryz.underlying111
 have hu83 := Tryz.underlying83
 have HR0 := aa_ hr0
 have HC0 := aa_ hc0
 clear hr0 hc0
 have HB := aa_ (Below.refl w.heap.size w)
 have H : (impl_CredsIn.l0 k (([] : List (S83))) l0 (l0.length : Int) 0) = some r := h
 clear h
 obtain ⟨y486, hy486⟩ : ∃ y_ : List (S83), y_ = (([] : List (S83))) := ⟨_, rfl⟩
 replace H : (impl_CredsIn.l0 k y486 l0 (l0.length : Int) 0) = some r := rh_ hy486 H
 have Ny486 := aa_ hy486
 clear hy486
 have H' := aa_ H
 clear H
 go_enter Tryz.func46, Tryz.ntmps46
 go_wp2_with (first | ((with_reducible refine gD_ 6 rfl ?_); refine Kd.R_lit k83 _ 83 ?hg (N := 6) ?hd (xs := ([] : List (S83))) (inner := []) (ok := fun _ => True) (okp := fun _ => True) ?hr ?hp (fun _ hk => hk) trivial (Below.refl _ _) (Nat.le_refl _) (by simp) ?_; (case hd => rfl); (case hg => rfl); (case hr => first | (go_simp; done) | (go_simp; rfl)); (case hp => exact (Reps.none _ _)); intro v487 w2 ho3 hb hg_ hnew_; clear hg_ hnew_; (first | rw [← Ny486.out] at ho3 | (simp only [Int.reduceToNat] at ho3; rw [← Ny486.out] at ho3)); have HO488 := aa_ (Kd.R_lower ho3 bls_); replace HB := hbs_ hb; clear hb ho3))
 go_loopg [3, 9] k (fun kq v3 v9 w' => ∃ (x3_1 : List (S83)) (x9_1 : Int), v9 = .int .i64 x9_1 ∧ Aside0 (impl_CredsIn.l0 kq x3_1 l0 (l0.length : Int) x9_1 = some r) ∧ Aside0 (kq ≤ k) ∧ Aside0 (Kd.R k83 83 w' w.heap.size (fun _ => True) v3 x3_1) ∧ Aside0 (Below w.heap.size w w'))
 case atStart => exact ⟨(y486), (0), rf_, H', ⟨Nat.le_refl _⟩, ⟨rr_ HO488⟩, ⟨bl_⟩⟩
 case round =>
  clear H'
  try clear p2
  obtain ⟨x3_1, x9_1, rfl, HA, HK1, HO_3, HB⟩ := hrel
  cases gk with
  | zero => exact absurd HA.out (by simp [impl_CredsIn.l0])
  | succ k1 =>
   have H := HA.out
   clear HA
   simp only [impl_CredsIn.l0] at H
   by_cases c4 : x9_1 < (l0.length : Int)
   ·rw [if_pos c4] at H
    have c4b0 : decide (x9_1 < (l0.length : Int)) = true := decide_eq_true c4
    clear c4
    obtain ⟨c5b0, H⟩ := ifd_ H
    obtain ⟨c6b0, H⟩ := ifd_ H
    obtain ⟨t491, A7, H⟩ := bindE_ H
    have HC8 := aa_ H
    clear H
    have p489 : 0 ≤ (x9_1 : Int) := od_
    have q489 : x9_1 < (l0.length : Int) := od_
    obtain ⟨ad489, A489_13, c489_13, e489, hx489_0, hx489_1, hx489_2, hx489_3, hx489_4, hx489_5, hx489_6, hx489_7, hx489_8, hx489_9, hx489_10, hx489_11, hx489_12, hx489_13, hl489_13, hi489_13⟩ := at_T111 HR0.out x9_1 p489 q489
    cases e489
    replace hx489_0 := cb_ HB hx489_0
    replace hx489_1 := cb_ HB hx489_1
    replace hx489_2 := cb_ HB hx489_2
    replace hx489_3 := cb_ HB hx489_3
    replace hx489_4 := cb_ HB hx489_4
    replace hx489_5 := cb_ HB hx489_5
    replace hx489_6 := cb_ HB hx489_6
    replace hx489_7 := cb_ HB hx489_7
    replace hx489_8 := cb_ HB hx489_8
    replace hx489_9 := cb_ HB hx489_9
    replace hx489_10 := cb_ HB hx489_10
    replace hx489_11 := cb_ HB hx489_11
    replace hx489_12 := cb_ HB hx489_12
    replace hx489_13 := cb_ HB hx489_13
    have HR489_13 := aa_ hi489_13
    have HC489_13 := aa_ hl489_13
    clear hi489_13 hl489_13
    replace p489 := eq_true p489
    replace q489 := eq_true q489
    go_upto_if 17 with (first | ((with_reducible refine gD_ 5 rfl ?_); refine bx_ (N := 5) (cs := #[.int .i64 0, .int .i64 0, .int .i64 0, .int .i64 0, .int .i64 0, .int .i64 0, .int .i64 0, .int .i64 0, .int .i64 0, .int .i64 0, .int .i64 0, .int .i64 0, .int .i64 0, .slice none 0 0]) (t := 111) ?_; intro gb490 hg w9 hbox hb; replace HO_3 := hob_ HO_3 hb; have BK490 := aa_ (hbox); have GW490 := gs_ hg; have GE490 := gs_ hg; replace HB := hbs_ hb; clear hb hbox hg; obtain ⟨hcz10, hfz10⟩ := bcf_ BK490; obtain ⟨Ao11, co11, eo11⟩ := Kd.R_slice HO_3.out; subst eo11) | ((with_reducible refine gC_ 51 rfl ?_); refine goesC_ (some 16) Tryz.func51 #[.slice Ao11 x3_1.length co11, .agg #[.int .i64 ((rd_T111 l0 x9_1).f0.f0), .int .i64 ((rd_T111 l0 x9_1).f0.f1.f0), .int .i64 ((rd_T111 l0 x9_1).f0.f1.f1), .int .i64 ((rd_T111 l0 x9_1).f0.f2), .int .i64 ((rd_T111 l0 x9_1).f0.f3.f0), .int .i64 ((rd_T111 l0 x9_1).f0.f3.f1), .int .i64 ((rd_T111 l0 x9_1).f0.f4.f0), .int .i64 ((rd_T111 l0 x9_1).f0.f4.f1), .int .i64 ((rd_T111 l0 x9_1).f0.f5), .int .i64 ((rd_T111 l0 x9_1).f0.f6)]] ?_; (with_reducible refine (impl_Cred_51.calls k1 _ _ x3_1 ((rd_T111 l0 x9_1).f0.f0) ((rd_T111 l0 x9_1).f0.f1.f0) ((rd_T111 l0 x9_1).f0.f1.f1) ((rd_T111 l0 x9_1).f0.f2) ((rd_T111 l0 x9_1).f0.f3.f0) ((rd_T111 l0 x9_1).f0.f3.f1) ((rd_T111 l0 x9_1).f0.f4.f0) ((rd_T111 l0 x9_1).f0.f4.f1) ((rd_T111 l0 x9_1).f0.f5) ((rd_T111 l0 x9_1).f0.f6) t491 _ ?side1 ?side2 A7.out).mono ?_); (case side1 => refine (Kd.R_reads' (e := 83) (base := w.heap.size) (ok := fun k_ => True) (n := x3_1.length) (c := co11) ?_).2.2; exact (by (with_reducible repeat (first | apply Kd.R_alloc | apply Kd.R_drewN | apply Kd.R_drew)); exact (Kd.R_mono (fr14_ (Kd.R_types HO_3.out BK490.out (by decide)) (fun _ hk => hk.2)) (fun _ h_ => h_.1)))); (case side2 => exact (Kd.R_reads' HO_3.out).2.1); rintro e w12 ⟨rfl, hb⟩; refine ⟨_, rfl, ?_⟩; replace HO_3 := aa_ (Kd.R_below (by (with_reducible repeat (first | apply Kd.R_alloc | apply Kd.R_drewN | apply Kd.R_drew)); exact (Kd.R_mono (fr14_ (Kd.R_types HO_3.out BK490.out (by decide)) (fun _ hk => hk.2)) (fun _ h_ => h_.1))) hb); replace BK490 := aa_ (blk_below (g := gb490) (o := .cells #[.int .i64 ((rd_T111 l0 x9_1).f0.f0), .int .i64 ((rd_T111 l0 x9_1).f0.f1.f0), .int .i64 ((rd_T111 l0 x9_1).f0.f1.f1), .int .i64 ((rd_T111 l0 x9_1).f0.f2), .int .i64 ((rd_T111 l0 x9_1).f0.f3.f0), .int .i64 ((rd_T111 l0 x9_1).f0.f3.f1), .int .i64 ((rd_T111 l0 x9_1).f0.f4.f0), .int .i64 ((rd_T111 l0 x9_1).f0.f4.f1), .int .i64 ((rd_T111 l0 x9_1).f0.f5), .int .i64 ((rd_T111 l0 x9_1).f0.f6), .int .i64 ((rd_T111 l0 x9_1).f1.f0.f0), .int .i64 ((rd_T111 l0 x9_1).f1.f0.f1), .int .i64 ((rd_T111 l0 x9_1).f1.f1), .slice A489_13 ((rd_T111 l0 x9_1).f2).length c489_13] 111 (0, 0)) (bk_ BK490) hb); replace HB := hbs_ hb; clear hb))
    (try simp only [Act.put, sb_, sz_, ss_])
    have H := HC8.out
    clear HC8
    by_cases c13 : t491 = true
    ·subst c13
     replace H := ite_t_ H
     have H' := aa_ H
     clear H
     go_wp2
     go_roundg k1
     case measure => have := HK1.out; omega
     case rel => exact ⟨(x3_1), (wrap64 (x9_1 + 1)), rf_, H', ⟨by have := HK1.out; omega⟩, ⟨rr_ HO_3⟩, ⟨bl_⟩⟩
    ·replace c13 := Bool.eq_false_iff.mpr c13
     subst c13
     replace H := ite_f_ H
     obtain ⟨c14, H⟩ := ifn_ H
     have LMc14 := aa_ c14
     clear c14
     obtain ⟨y492, hy492⟩ : ∃ y_ : List (S83), y_ = (x3_1 ++ [(⟨(rd_T111 l0 x9_1).f0.f0, (⟨(rd_T111 l0 x9_1).f0.f1.f0, (rd_T111 l0 x9_1).f0.f1.f1⟩ : S77), (rd_T111 l0 x9_1).f0.f2, (⟨(rd_T111 l0 x9_1).f0.f3.f0, (rd_T111 l0 x9_1).f0.f3.f1⟩ : S77), (⟨(rd_T111 l0 x9_1).f0.f4.f0, (rd_T111 l0 x9_1).f0.f4.f1⟩ : S77), (rd_T111 l0 x9_1).f0.f5, (rd_T111 l0 x9_1).f0.f6⟩ : S83)]) := ⟨_, rfl⟩
     replace H : (impl_CredsIn.l0 k1 y492 l0 (l0.length : Int) (wrap64 (x9_1 + 1))) = some r := rh_ hy492 H
     have Ny492 := aa_ hy492
     clear hy492
     have H' := aa_ H
     clear H
     have hcz15 := blk_cell BK490.out
     have hfz15 := blk_frozen BK490.out
     go_wp2_with (first | ((with_reducible refine gate_builtin (b := .append) (xs := #[.tmp 18, .tmp 21]) rfl ?_); at_builtin; refine Kd.R_append k83 (w0 := w) w.heap.size rfl (.tmp 18) (.tmp 21) 36 83 (.agg #[(.int .i64 0), (.int .i64 0), (.int .i64 0), (.int .i64 0), (.int .i64 0), (.int .i64 0), (.int .i64 0), (.int .i64 0), (.int .i64 0), (.int .i64 0)]) 80 rfl Tryz.underlying36 info83 rfl (by decide) (by omega) (.slice Ao11 x3_1.length co11) x3_1 (⟨(rd_T111 l0 x9_1).f0.f0, (⟨(rd_T111 l0 x9_1).f0.f1.f0, (rd_T111 l0 x9_1).f0.f1.f1⟩ : S77), (rd_T111 l0 x9_1).f0.f2, (⟨(rd_T111 l0 x9_1).f0.f3.f0, (rd_T111 l0 x9_1).f0.f3.f1⟩ : S77), (⟨(rd_T111 l0 x9_1).f0.f4.f0, (rd_T111 l0 x9_1).f0.f4.f1⟩ : S77), (rd_T111 l0 x9_1).f0.f5, (rd_T111 l0 x9_1).f0.f6⟩ : S83) [.int .i64 ((rd_T111 l0 x9_1).f0.f0), .int .i64 ((rd_T111 l0 x9_1).f0.f1.f0), .int .i64 ((rd_T111 l0 x9_1).f0.f1.f1), .int .i64 ((rd_T111 l0 x9_1).f0.f2), .int .i64 ((rd_T111 l0 x9_1).f0.f3.f0), .int .i64 ((rd_T111 l0 x9_1).f0.f3.f1), .int .i64 ((rd_T111 l0 x9_1).f0.f4.f0), .int .i64 ((rd_T111 l0 x9_1).f0.f4.f1), .int .i64 ((rd_T111 l0 x9_1).f0.f5), .int .i64 ((rd_T111 l0 x9_1).f0.f6)] (fun _ => True) (fun _ => False) rfl rfl ?aP (fun _ hk => hk.elim) ?aF ?aO ?aB ?aS ?aL ?_; (case aP => exact k83_mkM _ _ _ (⟨(rd_T111 l0 x9_1).f0.f0, (⟨(rd_T111 l0 x9_1).f0.f1.f0, (rd_T111 l0 x9_1).f0.f1.f1⟩ : S77), (rd_T111 l0 x9_1).f0.f2, (⟨(rd_T111 l0 x9_1).f0.f3.f0, (rd_T111 l0 x9_1).f0.f3.f1⟩ : S77), (⟨(rd_T111 l0 x9_1).f0.f4.f0, (rd_T111 l0 x9_1).f0.f4.f1⟩ : S77), (rd_T111 l0 x9_1).f0.f5, (rd_T111 l0 x9_1).f0.f6⟩ : S83)); (case aB => exact bl_); (case aF => exact (fun _ _ => trivial)); (case aO => exact (rr_ HO_3)); (case aS => exact bls_); (case aL => have := LMc14.out; omega); intro v493 w16 ho hb hg hat; rw [← Ny492.out] at ho; replace BK490 := aa_ (blk_grown (g := gb490) (o := .cells #[.int .i64 ((rd_T111 l0 x9_1).f0.f0), .int .i64 ((rd_T111 l0 x9_1).f0.f1.f0), .int .i64 ((rd_T111 l0 x9_1).f0.f1.f1), .int .i64 ((rd_T111 l0 x9_1).f0.f2), .int .i64 ((rd_T111 l0 x9_1).f0.f3.f0), .int .i64 ((rd_T111 l0 x9_1).f0.f3.f1), .int .i64 ((rd_T111 l0 x9_1).f0.f4.f0), .int .i64 ((rd_T111 l0 x9_1).f0.f4.f1), .int .i64 ((rd_T111 l0 x9_1).f0.f5), .int .i64 ((rd_T111 l0 x9_1).f0.f6), .int .i64 ((rd_T111 l0 x9_1).f1.f0.f0), .int .i64 ((rd_T111 l0 x9_1).f1.f0.f1), .int .i64 ((rd_T111 l0 x9_1).f1.f1), .slice A489_13 ((rd_T111 l0 x9_1).f2).length c489_13] 111 (0, 0)) (bk_ BK490) hg (Kd.R_ne HO_3.out BK490.out (by decide))); replace HB := aa_ (hb); have HO494 := aa_ (ho); clear HO_3; clear ho hb hg hat))
     go_roundg k1
     case measure => have := HK1.out; omega
     case rel => exact ⟨(y492), (wrap64 (x9_1 + 1)), rf_, H', ⟨by have := HK1.out; omega⟩, ⟨rr_ HO494⟩, ⟨bl_⟩⟩
   ·rw [if_neg c4] at H
    have c4b0 : decide (x9_1 < (l0.length : Int)) = false := decide_eq_false c4
    clear c4
    obtain rfl := Option.some.inj H
    go_wp2
    go_ret
    exact ⟨_, eq_, by (with_reducible repeat (first | apply Kd.R_alloc | apply Kd.R_drewN | apply Kd.R_drew)); exact HO_3.out, bl_⟩
def impl_RoleOk.f (a0_0 : Int) (a0_1 : Int) : Option (Bool) := (impl_in.f a0_0 0 5).bind fun t496 => (if t496 = true then ((impl_in.f a0_1 0 3).bind fun t497 => (some t497)) else (some false))
set_option maxHeartbeats 8000000 in
set_option maxRecDepth 100000 in
theorem impl_RoleOk.calls (a0_0 : Int) (a0_1 : Int) (r : Bool) (w : World) (h : impl_RoleOk.f a0_0 a0_1 = some r) :
  Calls Tryz.prog 97 #[.agg #[.int .i64 a0_0, .int .i64 a0_1]] w fun e w' => e = .returned (.bool r) ∧ Below w.heap.size w w' := by
 have hu77 := Tryz.underlying77
 have HB := aa_ (Below.refl w.heap.size w)
 have H : ((impl_in.f a0_0 0 5).bind fun t496 => (if t496 = true then ((impl_in.f a0_1 0 3).bind fun t497 => (some t497)) else (some false))) = some r := h
 clear h
 obtain ⟨t496, A2, H⟩ := bindE_ H
 by_cases c3 : t496 = true
 ·subst c3
  replace H := ite_t_ H
  obtain ⟨t497, A4, H⟩ := bindE_ H
  obtain rfl := Option.some.inj H
  go_enter Tryz.func97, Tryz.ntmps97
  go_wp2_with (first | ((with_reducible refine gD_ 1 rfl ?_); refine bx_ (N := 1) (cs := #[.int .i64 a0_0, .int .i64 a0_1]) (t := 77) ?_; intro gb495 hg w5 hbox hb; have BK495 := aa_ (hbox); have GW495 := gs_ hg; have GE495 := gs_ hg; replace HB := hbs_ hb; clear hb hbox hg; obtain ⟨hcz6, hfz6⟩ := bcf_ BK495) | ((with_reducible refine gC_ 41 rfl ?_); refine goesC_ (some 5) Tryz.func41 #[.int .i64 a0_0, .int .i64 0, .int .i64 5] ?_; (with_reducible refine (impl_in.calls a0_0 0 5 true _ A2.out).mono ?_); rintro e w' ⟨rfl, ⟨nd, rfl⟩⟩; refine ⟨_, rfl, ?_⟩) | (go_at_call 41; (with_reducible refine (impl_in.calls a0_1 0 3 t497 _ A4.out).mono ?_); rintro e w' ⟨rfl, ⟨nd, rfl⟩⟩))
  go_ret
  exact ⟨eq_, bl_⟩
 ·replace c3 := Bool.eq_false_iff.mpr c3
  subst c3
  replace H := ite_f_ H
  obtain rfl := Option.some.inj H
  go_enter Tryz.func97, Tryz.ntmps97
  go_wp2_with (first | ((with_reducible refine gD_ 1 rfl ?_); refine bx_ (N := 1) (cs := #[.int .i64 a0_0, .int .i64 a0_1]) (t := 77) ?_; intro gb495 hg w7 hbox hb; have BK495 := aa_ (hbox); have GW495 := gs_ hg; have GE495 := gs_ hg; replace HB := hbs_ hb; clear hb hbox hg; obtain ⟨hcz8, hfz8⟩ := bcf_ BK495) | ((with_reducible refine gC_ 41 rfl ?_); refine goesC_ (some 5) Tryz.func41 #[.int .i64 a0_0, .int .i64 0, .int .i64 5] ?_; (with_reducible refine (impl_in.calls a0_0 0 5 false _ A2.out).mono ?_); rintro e w' ⟨rfl, ⟨nd, rfl⟩⟩; refine ⟨_, rfl, ?_⟩))
  go_ret
  exact ⟨eq_, bl_⟩
def impl_isPerson.f (a0 : Int) : Option (Bool) := (impl_in.f a0 0 5).bind fun t498 => (some t498)
set_option maxHeartbeats 8000000 in
set_option maxRecDepth 100000 in
theorem impl_isPerson.calls (a0 : Int) (r : Bool) (w : World) (h : impl_isPerson.f a0 = some r) :
  Calls Tryz.prog 98 #[.int .i64 a0] w fun e w' => e = .returned (.bool r) ∧ Drawn0 w w' := by
 have H : ((impl_in.f a0 0 5).bind fun t498 => (some t498)) = some r := h
 clear h
 obtain ⟨t498, A2, H⟩ := bindE_ H
 obtain rfl := Option.some.inj H
 go_enter Tryz.func98, Tryz.ntmps98
 go_wp2_with (first | ((with_reducible refine gC_ 41 rfl ?_); refine goesC_ (some 4) Tryz.func41 #[.int .i64 a0, .int .i64 0, .int .i64 5] ?_; (with_reducible refine (impl_in.calls a0 0 5 t498 _ A2.out).mono ?_); rintro e w' ⟨rfl, ⟨nd, rfl⟩⟩; refine ⟨_, rfl, ?_⟩))
 go_ret
 exact ⟨by first | rfl | (simp; done) | (simp [*]; done), by repeat (first | exact Drawn0.refl _ | apply Drawn0.step)⟩
end Go.Proofs.YteofimccoadmeaaGreat.PA
