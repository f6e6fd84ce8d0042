import Derived.Test.YteofimccoadmeaaGreatKWPAx10
-- printed by wip/tools
namespace Go.Proofs.YteofimccoadmeaaGreat.PA
open Go.RowKit Go.Proofs.YteofimccoadmeaaGreatW.PrintWords Go.Proofs.YteofimccoadmeaaGreatW.PrintLast Go.Proofs.YteofimccoadmeaaGreatW.PrintMore
attribute [local go_sem] max2_int min2_int max_two min_two max_three min_three max_four min_four
set_option linter.unusedVariables false
set_option linter.unusedSimpArgs false
def laws_toShelfS.l0 : Nat → List (S141) → List (S108) → Int → Option ((List (S108)))
 | 0, _, _, _ => none
 | k + 1, x0, x3, x4 => if x4 < (x0.length : Int) then (if 0 ≤ x4 then ((laws_toShelf.f k ((rd_T141 x0 x4).f0) ((rd_T141 x0 x4).f1)).bind fun bt282 => (if x4 < (x3.length : Int) then (laws_toShelfS.l0 k x0 (x3.set (x4 : Int).toNat (⟨bt282.1, bt282.2⟩ : S108)) (wrap64 (x4 + 1))) else (none))) else (none)) else (some x3)
def laws_toShelfS.f (k : Nat) (l0 : List (S141)) : Option ((List (S108))) := if 0 ≤ (l0.length : Int) then (if ((l0.length : Int) : Int).toNat ≤ 8796093022208 then (laws_toShelfS.l0 k l0 (List.replicate ((l0.length : Int) : Int).toNat z108) 0) else (none)) else (none)
set_option maxHeartbeats 8000000 in
set_option maxRecDepth 100000 in
theorem laws_toShelfS.calls (k : Nat) (A0 : Option Addr) (c0 : Nat) (l0 : List (S141)) (r : List (S108)) (w : World) (hr0 : Kd.C k141 w A0 l0.length l0) (hc0 : l0.length ≤ c0) (h : laws_toShelfS.f k l0 = some r) :
  Calls Tryz.prog 84 #[.slice A0 l0.length c0] w fun e w' => ∃ v0_ : Value, e = .returned (v0_) ∧ Kd.S k108 108 w' w.heap.size (fun _ => True) v0_ r ∧ Below w.heap.size w w' := by
 have hu141 := Tryz.underlying141
 have hu108 := Tryz.underlying108
 have HR0 := aa_ hr0
 have HC0 := aa_ hc0
 clear hr0 hc0
 have HB := aa_ (Below.refl w.heap.size w)
 have H : (if 0 ≤ (l0.length : Int) then (if ((l0.length : Int) : Int).toNat ≤ 8796093022208 then (laws_toShelfS.l0 k l0 (List.replicate ((l0.length : Int) : Int).toNat z108) 0) else (none)) else (none)) = some r := h
 clear h
 obtain ⟨c2, H⟩ := ifn_ H
 have c2b0 := eq_true c2
 have c2b1 : decide (0 ≤ (l0.length : Int)) = true := decide_eq_true c2
 clear c2
 obtain ⟨c3, H⟩ := ifn_ H
 have c3b0 := eq_true c3
 have c3b1 : decide (((l0.length : Int) : Int).toNat ≤ 8796093022208) = true := decide_eq_true c3
 clear c3
 obtain ⟨y278, hy278⟩ : ∃ y_ : List (S108), y_ = (List.replicate ((l0.length : Int) : Int).toNat z108) := ⟨_, rfl⟩
 replace H : (laws_toShelfS.l0 k l0 y278 0) = some r := rh_ hy278 H
 have Ny278 := aa_ hy278
 clear hy278
 have H' := aa_ H
 clear H
 go_enter Tryz.func84, Tryz.ntmps84
 go_wp2_with (first | ((with_reducible refine gD_ 7 rfl ?_); refine Kd.S_make k108 _ 108 rfl (N := 7) rfl 66 _ _ rfl (l0.length : Int) rfl rfl Tryz.underlying66 (.agg #[(.int .i64 0), (.slice none 0 0)]) 32 info108 rfl (by decide) (by omega) z108 (ok := fun _ => True) (okp := fun _ => True) (k108_mkM _ _ _ z108 (Kd.R_nil _ _ _ _ _)) (fun _ hk => hk) trivial (od_) (Nat.le_trans (Nat.mul_le_mul_right _ (od_ : (l0.length : Int).toNat ≤ 8796093022208)) (by omega)) (Below.refl _ _) (Nat.le_refl _) ?_; intro v279 w4 ho5 hb hg_ hnew_; clear hg_ hnew_; (first | rw [← Ny278.out] at ho5 | (simp only [Int.reduceToNat] at ho5; rw [← Ny278.out] at ho5)); have HO280 := aa_ (Kd.S_lower ho5 bls_); replace HB := hbs_ hb; clear hb ho5))
 go_loopg [4] k (fun kq v4 w' => ∃ (x3_1 : List (S108)) (x4_1 : Int), v4 = .int .i64 x4_1 ∧ Aside0 (laws_toShelfS.l0 kq l0 x3_1 x4_1 = some r) ∧ Aside0 (kq ≤ k) ∧ Aside0 (Kd.S k108 108 w' w.heap.size (fun _ => True) v279 x3_1) ∧ Aside0 (Below w.heap.size w w'))
 case atStart => exact ⟨(y278), (0), rf_, H', ⟨Nat.le_refl _⟩, ⟨rs_ HO280⟩, ⟨bl_⟩⟩
 case round =>
  clear H'
  try clear c2b0
  try clear c2b1
  try clear p2
  try clear c3b0
  try clear c3b1
  obtain ⟨x3_1, x4_1, rfl, HA, HK1, HO_3, HB⟩ := hrel
  cases gk with
  | zero => exact absurd HA.out (by simp [laws_toShelfS.l0])
  | succ k1 =>
   have H := HA.out
   clear HA
   simp only [laws_toShelfS.l0] at H
   by_cases c6 : x4_1 < (l0.length : Int)
   ·rw [if_pos c6] at H
    have c6b0 : decide (x4_1 < (l0.length : Int)) = true := decide_eq_true c6
    clear c6
    obtain ⟨c7b0, H⟩ := ifd_ H
    obtain ⟨⟨t282, t283⟩, A8, H⟩ := bindE_ H
    replace H : (if x4_1 < (x3_1.length : Int) then (laws_toShelfS.l0 k1 l0 (x3_1.set (x4_1 : Int).toNat (⟨t282, t283⟩ : S108)) (wrap64 (x4_1 + 1))) else (none)) = some r := H
    obtain ⟨c9b0, H⟩ := ifd_ H
    obtain ⟨y286, hy286⟩ : ∃ y_ : List (S108), y_ = (x3_1.set (x4_1 : Int).toNat (⟨t282, t283⟩ : S108)) := ⟨_, rfl⟩
    replace H : (laws_toShelfS.l0 k1 l0 y286 (wrap64 (x4_1 + 1))) = some r := rh_ hy286 H
    have Ny286 := aa_ hy286
    clear hy286
    have H' := aa_ H
    clear H
    have p281 : 0 ≤ (x4_1 : Int) := od_
    have q281 : x4_1 < (l0.length : Int) := od_
    obtain ⟨ad281, A281_1, c281_1, e281, hx281_0, hx281_1, hl281_1, hi281_1⟩ := at_T141 HR0.out x4_1 p281 q281
    cases e281
    replace hx281_0 := cb_ HB hx281_0
    replace hx281_1 := cb_ HB hx281_1
    have HR281_1 := aa_ hi281_1
    have HC281_1 := aa_ hl281_1
    clear hi281_1 hl281_1
    replace p281 := eq_true p281
    replace q281 := eq_true q281
    go_wp2_with (first | ((with_reducible refine gC_ 95 rfl ?_); refine goesC_ (some 20) Tryz.func95 #[.agg #[.int .i64 ((rd_T141 l0 x4_1).f0), .slice A281_1 ((rd_T141 l0 x4_1).f1).length c281_1]] ?_; (with_reducible refine (laws_toShelf.calls k1 ((rd_T141 l0 x4_1).f0) _ _ ((rd_T141 l0 x4_1).f1) t282 t283 _ ?side1 ?side2 A8.out).mono ?_); (case side1 => repeat (first | exact (Kd.C_below HR281_1.out HB.out) | (with_reducible refine Kd.C_alloc ?_ _) | (with_reducible refine Kd.C_drewN ?_ _) | (with_reducible refine Kd.C_drew ?_))); (case side2 => exact HC281_1.out); rintro e w11 ⟨v284, rfl, ho0, hb⟩; refine ⟨_, rfl, ?_⟩; replace HO_3 := aa_ (Kd.S_elder' (rs_ HO_3) (Kd.R_base ho0) hb); have HO285 := aa_ (Kd.R_lower ho0 bls_); replace HB := hbs_ hb; (try clear hb ho0); have p10 : 0 ≤ (x4_1 : Int) := od_; have q10 : (x4_1 : Int) < ((x3_1.length : Int) : Int) := od_; obtain ⟨go10, co10, eo10, gb10, gl10, cl10, HG10⟩ := Kd.S_form HO_3.out (by omega); (first | cases eo10 | (injection eo10 with ea_ en_ ec_; (first | subst ea_ | (injection ea_ with ea_; subst ea_)); subst ec_; clear en_)); have GB10 := aa_ gb10; have GG10 := aa_ HG10; clear gb10 gl10 HG10; obtain ⟨_, ce10, hcl10, hM10, hcc10, hfr10, _, _⟩ := Kd.S_elem HO_3.out z108 (x4_1 : Int) p10 q10; obtain ⟨ve10_1, rfl, ge10_1⟩ := k108_openM hM10; have hx10_0 : w11.cell? ⟨go10, (x4_1 : Int).toNat * 2, none⟩ = some (.int .i64 ((rd_T108 x3_1 x4_1).f0)) := hcc10 0 _ rfl; have hx10_1 : w11.cell? ⟨go10, (x4_1 : Int).toNat * 2 + 1, none⟩ = some (ve10_1) := hcc10 1 _ rfl; have hf10_0 : w11.frozen? ⟨go10, (x4_1 : Int).toNat * 2, none⟩ = false := hfr10 0; have hf10_1 : w11.frozen? ⟨go10, (x4_1 : Int).toNat * 2 + 1, none⟩ = false := hfr10 1; clear hcl10 hcc10 hfr10 hM10; replace p10 := eq_true p10; replace q10 := eq_true q10; have n_ := aa_ (Kd.S_mono (ok' := (fun k_ => some k_ ≠ (v284 : Value).ownBlock)) HO_3.out (fun k_ hk => hk.2)); clear HO_3; have HO_3 := n_; clear n_; have honeo14 := one_R_ Tryz.prog HO285.out; have HX12 := aa_ (show Kd.S k108 108 w11 w.heap.size (fun k_ => ((fun _ => True)) k_ ∧ ¬ ((fun k_ => some k_ = (v284 : Value).ownBlock)) k_) (.slice (some ⟨go10, 0, none⟩) x3_1.length co10) x3_1 from (by (with_reducible repeat (first | apply Kd.S_alloc | apply Kd.S_drewN | apply Kd.S_drew)); exact Kd.S_mono HO_3.out (fun k_ hk => ⟨trivial, fun e_ => hk e_⟩))); obtain ⟨oki12, ce12, hcl12, hM12, hcc12, hfr12, hoki12, hH12⟩ := Kd.S_elem HX12.out z108 (x4_1 : Int) (od_) (by have h_ : (x4_1 : Int) < ((x3_1.length : Int) : Int) := od_; first | exact h_ | (have e_ := (Kd.S_reads' HO_3.out).1; omega) | simpa using h_); obtain ⟨ve12_1, rfl, ge12_1⟩ := k108_openM hM12; have HP12 := Kd.S_seg hH12 (od_) (by have h_ : (x4_1 : Int) < ((x3_1.length : Int) : Int) := od_; first | exact h_ | (have e_ := (Kd.S_reads' HO_3.out).1; omega) | simpa using h_) (seg := [.int .i64 t282, v284]) (j := 0) (show 2 ≤ 2 from by decide) (x' := (⟨t282, t283⟩ : S108)) (k108_mkM _ _ _ (⟨t282, t283⟩ : S108) (Kd.R_mono (Kd.R_tight rfl (Kd.R_mono (ok' := fun k_ => ((fun _ => True)) k_ ∧ k_ ≠ go10) (Kd.R_apart' (HO285.out) (Kd.S_typed HO_3.out) (by decide)) (fun k_ hk => ⟨trivial, fun e_ => (hk.2) (by rw [e_]; rfl)⟩))) (fun _ h_ => Or.inr (h_)))) (fun _ hk => hk) (fun k_ hk_ => ((Kd.R_mono (ok' := fun k_ => ((fun _ => True)) k_ ∧ k_ ≠ go10) (Kd.R_apart' (HO285.out) (Kd.S_typed HO_3.out) (by decide)) (fun k_ hk => ⟨trivial, fun e_ => (hk.2) (by rw [e_]; rfl)⟩))).1 k_ hk_.symm); have hx12_0 := hcc12 0 _ rfl; (try simp only [show (k108).sz = 2 from rfl, Nat.mul_one, Nat.add_zero] at hx12_0); have hf12_0 := hfr12 0; (try simp only [show (k108).sz = 2 from rfl, Nat.mul_one, Nat.add_zero] at hf12_0); have hx12_1 := hcc12 1 _ rfl; (try simp only [show (k108).sz = 2 from rfl, Nat.mul_one, Nat.add_zero] at hx12_1); have hf12_1 := hfr12 1; (try simp only [show (k108).sz = 2 from rfl, Nat.mul_one, Nat.add_zero] at hf12_1); clear hcl12 hcc12 hfr12 hM12 hoki12 hH12) | ((with_reducible refine gate_store (t := 108) (p := 21) rfl ?_); refine store_event (t := 108) (p := 21) (v := ?vo_w13) (w1 := ((w11.setCell ⟨go10, (x4_1 : Int).toNat * 2, none⟩ (.int .i64 t282)).setCell ⟨go10, (x4_1 : Int).toNat * 2 + 1, none⟩ (v284))) ?hg ?ho ?hn ?hr ?_; (case ho => rfl); (case hg => rfl); (case hn => rfl); (case hr => first | (go_simp; done) | (go_simp; rfl)); intro w13 hw; have hg : w11.grownBy w13 (some go10) := (by rw [hw]; exact HP12.2); have hp_ : Kd.S k108 108 w13 w.heap.size (fun _ => True) (.slice (some ⟨go10, 0, none⟩) x3_1.length co10) y286 := (by rw [hw, Ny286.out]; exact HP12.1); clear HP12; replace HO_3 := aa_ (hp_); replace HB := aa_ ((by rw [hw]; exact below_set (below_set (HB.out) GB10.out) GB10.out : Below w.heap.size w w13)); clear HO285; clear hg hw hp_))
    go_roundg k1
    case measure => have := HK1.out; omega
    case rel => exact ⟨(y286), (wrap64 (x4_1 + 1)), rf_, H', ⟨by have := HK1.out; omega⟩, ⟨rs_ HO_3⟩, ⟨bl_⟩⟩
   ·rw [if_neg c6] at H
    have c6b0 : decide (x4_1 < (l0.length : Int)) = false := decide_eq_false c6
    clear c6
    obtain rfl := Option.some.inj H
    go_wp2
    go_ret
    exact ⟨_, eq_, by (with_reducible repeat (first | apply Kd.S_alloc | apply Kd.S_drewN | apply Kd.S_drew)); exact HO_3.out, bl_⟩
def laws_toPeer.f (k : Nat) (a0_0 : Int) (a0_1 : Bool) (a0_2 : Int) (l0_3 : List Int) (l0_4 : List Int) (l0_5 : List (S141)) : Option (Int × Bool × Int × List Int × List Int × (List (S108))) := (laws_toIntS.f k l0_3).bind fun t290 => ((laws_toIntS.f k l0_4).bind fun t293 => ((laws_toShelfS.f k l0_5).bind fun t296 => (some (a0_0, a0_1, a0_2, t290, t293, t296))))
set_option maxHeartbeats 8000000 in
set_option maxRecDepth 100000 in
theorem laws_toPeer.calls (k : Nat) (a0_0 : Int) (a0_1 : Bool) (a0_2 : Int) (A0_3 : Option Addr) (c0_3 : Nat) (l0_3 : List Int) (A0_4 : Option Addr) (c0_4 : Nat) (l0_4 : List Int) (A0_5 : Option Addr) (c0_5 : Nat) (l0_5 : List (S141)) (r1 : Int) (r2 : Bool) (r3 : Int) (r4 : List Int) (r5 : List Int) (r6 : List (S108)) (w : World) (hr0_3 : Kd.C (Kd.int .i64) w A0_3 l0_3.length l0_3) (hc0_3 : l0_3.length ≤ c0_3) (hr0_4 : Kd.C (Kd.int .i64) w A0_4 l0_4.length l0_4) (hc0_4 : l0_4.length ≤ c0_4) (hr0_5 : Kd.C k141 w A0_5 l0_5.length l0_5) (hc0_5 : l0_5.length ≤ c0_5) (h : laws_toPeer.f k a0_0 a0_1 a0_2 l0_3 l0_4 l0_5 = some (r1, r2, r3, r4, r5, r6)) :
  Calls Tryz.prog 62 #[.agg #[.int .i64 a0_0, .bool a0_1, .int .i64 a0_2, .slice A0_3 l0_3.length c0_3, .slice A0_4 l0_4.length c0_4, .slice A0_5 l0_5.length c0_5]] w fun e w' => ∃ v3_ v4_ v5_ : Value, e = .returned (.agg #[.int .i64 r1, .bool r2, .int .i64 r3, v3_, v4_, v5_]) ∧ Kd.R (Kd.int .i64) 3 w' w.heap.size (fun k_ => some k_ ≠ (v4_ : Value).ownBlock) v3_ r4 ∧ Kd.R (Kd.int .i64) 3 w' w.heap.size (fun k_ => some k_ ≠ (v3_ : Value).ownBlock) v4_ r5 ∧ Kd.S k108 108 w' w.heap.size (fun _ => True) v5_ r6 ∧ Below w.heap.size w w' := by
 have hu104 := Tryz.underlying104
 have hu68 := Tryz.underlying68
 have HR0_3 := aa_ hr0_3
 have HC0_3 := aa_ hc0_3
 clear hr0_3 hc0_3
 have HR0_4 := aa_ hr0_4
 have HC0_4 := aa_ hc0_4
 clear hr0_4 hc0_4
 have HR0_5 := aa_ hr0_5
 have HC0_5 := aa_ hc0_5
 clear hr0_5 hc0_5
 have HB := aa_ (Below.refl w.heap.size w)
 have H : ((laws_toIntS.f k l0_3).bind fun t290 => ((laws_toIntS.f k l0_4).bind fun t293 => ((laws_toShelfS.f k l0_5).bind fun t296 => (some (a0_0, a0_1, a0_2, t290, t293, t296))))) = some (r1, r2, r3, r4, r5, r6) := h
 clear h
 obtain ⟨t290, A2, H⟩ := bindE_ H
 obtain ⟨t293, A3, H⟩ := bindE_ H
 obtain ⟨t296, A4, H⟩ := bindE_ H
 simp only [Option.some.injEq, Prod.mk.injEq] at H
 obtain ⟨rfl, rfl, rfl, rfl, rfl, rfl⟩ := H
 go_enter Tryz.func62, Tryz.ntmps62
 go_wp2_with (first | ((with_reducible refine gD_ 1 rfl ?_); refine bx_ (N := 1) (cs := #[.int .i64 a0_0, .bool a0_1, .int .i64 a0_2, .slice A0_3 l0_3.length c0_3, .slice A0_4 l0_4.length c0_4, .slice A0_5 l0_5.length c0_5]) (t := 104) ?_; intro gb287 hg w5 hbox hb; have BK287 := aa_ (hbox); have GW287 := gs_ hg; have GE287 := gs_ hg; replace HB := hbs_ hb; clear hb hbox hg) | ((with_reducible refine gD_ 2 rfl ?_); refine bx_ (N := 2) (cs := #[.int .i64 0, .bool false, .int .i64 0, .slice none 0 0, .slice none 0 0, .slice none 0 0]) (t := 68) ?_; intro gb288 hg w6 hbox hb; have BK288 := aa_ (hbox); have GW288 := gs_ hg; have GE288 := gs_ hg; replace HB := hbs_ hb; have NB287_288 := nl_ hg BK287; have NB288_287 := nr_ hg BK287; replace BK287 := bkb_ BK287 hb; clear hb hbox hg) | ((with_reducible refine gD_ 3 rfl ?_); refine bx_ (N := 3) (cs := #[.int .i64 0, .bool false, .int .i64 0, .slice none 0 0, .slice none 0 0, .slice none 0 0]) (t := 68) ?_; intro gb289 hg w7 hbox hb; have BK289 := aa_ (hbox); have GW289 := gs_ hg; have GE289 := gs_ hg; replace HB := hbs_ hb; have NB287_289 := nl_ hg BK287; have NB289_287 := nr_ hg BK287; replace BK287 := bkb_ BK287 hb; have NB288_289 := nl_ hg BK288; have NB289_288 := nr_ hg BK288; replace BK288 := bkb_ BK288 hb; clear hb hbox hg; have hnb8 := NB287_288.out; have hnc8 := NB288_287.out; have hnb9 := NB287_289.out; have hnc9 := NB289_287.out; obtain ⟨hcz10, hfz10⟩ := bcf_ BK287; have hnb11 := NB289_288.out; have hnc11 := NB288_289.out; obtain ⟨hcz12, hfz12⟩ := bcf_ BK289) | ((with_reducible refine gC_ 17 rfl ?_); refine goesC_ (some 15) Tryz.func17 #[.slice A0_3 l0_3.length c0_3] ?_; (with_reducible refine (laws_toIntS.calls k _ _ l0_3 t290 _ ?side1 ?side2 A2.out).mono ?_); (case side1 => exact Kd.C_below HR0_3.out bl_); (case side2 => exact HC0_3.out); rintro e w13 ⟨v291, rfl, ho0, hb⟩; refine ⟨_, rfl, ?_⟩; have HO292 := aa_ (Kd.R_lower ho0 bls_); replace BK287 := aa_ (blk_below (g := gb287) (o := .cells #[.int .i64 a0_0, .bool a0_1, .int .i64 a0_2, .slice A0_3 l0_3.length c0_3, .slice A0_4 l0_4.length c0_4, .slice A0_5 l0_5.length c0_5] 104 (0, 0)) (bk_ BK287) hb); replace BK288 := aa_ (blk_below (g := gb288) (o := .cells #[.int .i64 0, .bool false, .int .i64 0, .slice none 0 0, .slice none 0 0, .slice none 0 0] 68 (0, 0)) (bk_ BK288) hb); replace BK289 := aa_ (blk_below (g := gb289) (o := .cells #[.int .i64 a0_0, .bool a0_1, .int .i64 a0_2, .slice none 0 0, .slice none 0 0, .slice none 0 0] 68 (0, 0)) (bk_ BK289) hb); replace HB := hbs_ hb; (try clear hb ho0); obtain ⟨Ao14, co14, eo14⟩ := Kd.R_slice HO292.out; subst eo14; obtain ⟨hcz15, hfz15⟩ := bcf_ BK289; obtain ⟨hcz16, hfz16⟩ := bcf_ BK287) | ((with_reducible refine gC_ 17 rfl ?_); refine goesC_ (some 19) Tryz.func17 #[.slice A0_4 l0_4.length c0_4] ?_; (with_reducible refine (laws_toIntS.calls k _ _ l0_4 t293 _ ?side1 ?side2 A3.out).mono ?_); (case side1 => exact Kd.C_below HR0_4.out bl_); (case side2 => exact HC0_4.out); rintro e w17 ⟨v294, rfl, ho0, hb⟩; refine ⟨_, rfl, ?_⟩; have HO295 := aa_ (Kd.R_lower (Kd.R_new' ho0 (Kd.R_lt (by (with_reducible repeat (first | apply Kd.R_alloc | apply Kd.R_drewN | apply Kd.R_drew)); exact (Kd.R_mono (Kd.R_far (p := ⟨gb289, 3, none⟩) (Kd.R_types HO292.out BK289.out (by decide)) (fun _ hk => hk.2) (.slice Ao14 t290.length co14)) (fun _ h_ => h_.1))))) bls_); replace HO292 := aa_ (Kd.R_elder' (by (with_reducible repeat (first | apply Kd.R_alloc | apply Kd.R_drewN | apply Kd.R_drew)); exact (Kd.R_mono (Kd.R_far (p := ⟨gb289, 3, none⟩) (Kd.R_types HO292.out BK289.out (by decide)) (fun _ hk => hk.2) (.slice Ao14 t290.length co14)) (fun _ h_ => h_.1))) (Kd.R_base ho0) hb); replace BK287 := aa_ (blk_below (g := gb287) (o := .cells #[.int .i64 a0_0, .bool a0_1, .int .i64 a0_2, .slice A0_3 l0_3.length c0_3, .slice A0_4 l0_4.length c0_4, .slice A0_5 l0_5.length c0_5] 104 (0, 0)) (bk_ BK287) hb); replace BK288 := aa_ (blk_below (g := gb288) (o := .cells #[.int .i64 0, .bool false, .int .i64 0, .slice none 0 0, .slice none 0 0, .slice none 0 0] 68 (0, 0)) (bk_ BK288) hb); replace BK289 := aa_ (blk_below (g := gb289) (o := .cells #[.int .i64 a0_0, .bool a0_1, .int .i64 a0_2, .slice Ao14 t290.length co14, .slice none 0 0, .slice none 0 0] 68 (0, 0)) (bk_ BK289) hb); replace HB := hbs_ hb; (try clear hb ho0); obtain ⟨Ao18, co18, eo18⟩ := Kd.R_slice HO295.out; subst eo18; obtain ⟨hcz19, hfz19⟩ := bcf_ BK289; obtain ⟨hcz20, hfz20⟩ := bcf_ BK287) | ((with_reducible refine gC_ 84 rfl ?_); refine goesC_ (some 23) Tryz.func84 #[.slice A0_5 l0_5.length c0_5] ?_; (with_reducible refine (laws_toShelfS.calls k _ _ l0_5 t296 _ ?side1 ?side2 A4.out).mono ?_); (case side1 => exact Kd.C_below HR0_5.out bl_); (case side2 => exact HC0_5.out); rintro e w21 ⟨v297, rfl, ho0, hb⟩; refine ⟨_, rfl, ?_⟩; replace HO292 := aa_ (Kd.R_below (by (with_reducible repeat (first | apply Kd.R_alloc | apply Kd.R_drewN | apply Kd.R_drew)); exact (Kd.R_mono (Kd.R_far (p := ⟨gb289, 4, none⟩) (Kd.R_types HO292.out BK289.out (by decide)) (fun _ hk => hk.2) (.slice Ao18 t293.length co18)) (fun _ h_ => h_.1))) hb); replace HO295 := aa_ (Kd.R_below (by (with_reducible repeat (first | apply Kd.R_alloc | apply Kd.R_drewN | apply Kd.R_drew)); exact (Kd.R_mono (Kd.R_far (p := ⟨gb289, 4, none⟩) (Kd.R_types HO295.out BK289.out (by decide)) (fun _ hk => hk.2) (.slice Ao18 t293.length co18)) (fun _ h_ => h_.1))) hb); have HO298 := aa_ (Kd.S_lower ho0 bls_); replace BK287 := aa_ (blk_below (g := gb287) (o := .cells #[.int .i64 a0_0, .bool a0_1, .int .i64 a0_2, .slice A0_3 l0_3.length c0_3, .slice A0_4 l0_4.length c0_4, .slice A0_5 l0_5.length c0_5] 104 (0, 0)) (bk_ BK287) hb); replace BK288 := aa_ (blk_below (g := gb288) (o := .cells #[.int .i64 0, .bool false, .int .i64 0, .slice none 0 0, .slice none 0 0, .slice none 0 0] 68 (0, 0)) (bk_ BK288) hb); replace BK289 := aa_ (blk_below (g := gb289) (o := .cells #[.int .i64 a0_0, .bool a0_1, .int .i64 a0_2, .slice Ao14 t290.length co14, .slice Ao18 t293.length co18, .slice none 0 0] 68 (0, 0)) (bk_ BK289) hb); replace HB := hbs_ hb; (try clear hb ho0); obtain ⟨Ao22, co22, eo22⟩ := Kd.S_slice HO298.out; subst eo22; obtain ⟨hcz23, hfz23⟩ := bcf_ BK289; obtain ⟨hcz24, hfz24⟩ := bcf_ BK288))
 refine bodyPost_ret (results_cell_row rfl _ _ gb288 68 #[.int .i64 a0_0, .bool a0_1, .int .i64 a0_2, .slice Ao14 t290.length co14, .slice Ao18 t293.length co18, .slice Ao22 t296.length co22] (0, 0) _ rfl (bk_ BK288) Tryz.underlying68 rfl (by kernel_rfl)) rfl ?_
 exact ⟨_, _, _, eq_, by (with_reducible repeat (first | apply Kd.R_alloc | apply Kd.R_drewN | apply Kd.R_drew)); exact Kd.R_mono (fr6_ (Kd.R_far (p := ⟨gb289, 5, none⟩) (Kd.R_types (Kd.R_types HO292.out BK289.out (by decide)) BK288.out (by decide)) (fun _ hk => hk.1.2) (.slice Ao22 t296.length co22)) (fun _ hk => hk.2)) (fun _ hk => hk.1.1.2), by (with_reducible repeat (first | apply Kd.R_alloc | apply Kd.R_drewN | apply Kd.R_drew)); exact Kd.R_mono (fr6_ (Kd.R_far (p := ⟨gb289, 5, none⟩) (Kd.R_types (Kd.R_types HO295.out BK289.out (by decide)) BK288.out (by decide)) (fun _ hk => hk.1.2) (.slice Ao22 t296.length co22)) (fun _ hk => hk.2)) (fun _ hk => hk.1.1.2), by (with_reducible repeat (first | apply Kd.S_alloc | apply Kd.S_drewN | apply Kd.S_drew)); exact Kd.S_mono (fs6_ (Kd.S_far (p := ⟨gb289, 5, none⟩) (Kd.S_types (Kd.S_types HO298.out BK289.out (by decide)) BK288.out (by decide)) (fun _ hk => hk.1.2) (.slice Ao22 t296.length co22)) (fun _ hk => hk.2)) (fun _ hk => trivial), bl_⟩
def laws_toPeerS.l0 : Nat → List (S104) → List (S68) → Int → Option ((List (S68)))
 | 0, _, _, _ => none
 | k + 1, x0, x3, x4 => if x4 < (x0.length : Int) then (if 0 ≤ x4 then ((laws_toPeer.f k ((rd_T104 x0 x4).f0) ((rd_T104 x0 x4).f1) ((rd_T104 x0 x4).f2) ((rd_T104 x0 x4).f3) ((rd_T104 x0 x4).f4) ((rd_T104 x0 x4).f5)).bind fun bt303 => (if x4 < (x3.length : Int) then (laws_toPeerS.l0 k x0 (x3.set (x4 : Int).toNat (⟨bt303.1, bt303.2.1, bt303.2.2.1, bt303.2.2.2.1, bt303.2.2.2.2.1, bt303.2.2.2.2.2⟩ : S68)) (wrap64 (x4 + 1))) else (none))) else (none)) else (some x3)
def laws_toPeerS.f (k : Nat) (l0 : List (S104)) : Option ((List (S68))) := if 0 ≤ (l0.length : Int) then (if ((l0.length : Int) : Int).toNat ≤ 2932031007402 then (laws_toPeerS.l0 k l0 (List.replicate ((l0.length : Int) : Int).toNat z68) 0) else (none)) else (none)
set_option maxHeartbeats 8000000 in
set_option maxRecDepth 100000 in
theorem laws_toPeerS.calls (k : Nat) (A0 : Option Addr) (c0 : Nat) (l0 : List (S104)) (r : List (S68)) (w : World) (hr0 : Kd.C k104 w A0 l0.length l0) (hc0 : l0.length ≤ c0) (h : laws_toPeerS.f k l0 = some r) :
  Calls Tryz.prog 37 #[.slice A0 l0.length c0] w fun e w' => ∃ v0_ : Value, e = .returned (v0_) ∧ Kd.R k68 68 w' w.heap.size (fun _ => True) v0_ r ∧ Below w.heap.size w w' := by
 have hu104 := Tryz.underlying104
 have hu68 := Tryz.underlying68
 have HR0 := aa_ hr0
 have HC0 := aa_ hc0
 clear hr0 hc0
 have HB := aa_ (Below.refl w.heap.size w)
 have H : (if 0 ≤ (l0.length : Int) then (if ((l0.length : Int) : Int).toNat ≤ 2932031007402 then (laws_toPeerS.l0 k l0 (List.replicate ((l0.length : Int) : Int).toNat z68) 0) else (none)) else (none)) = some r := h
 clear h
 obtain ⟨c2, H⟩ := ifn_ H
 have c2b0 := eq_true c2
 have c2b1 : decide (0 ≤ (l0.length : Int)) = true := decide_eq_true c2
 clear c2
 obtain ⟨c3, H⟩ := ifn_ H
 have c3b0 := eq_true c3
 have c3b1 : decide (((l0.length : Int) : Int).toNat ≤ 2932031007402) = true := decide_eq_true c3
 clear c3
 obtain ⟨y299, hy299⟩ : ∃ y_ : List (S68), y_ = (List.replicate ((l0.length : Int) : Int).toNat z68) := ⟨_, rfl⟩
 replace H : (laws_toPeerS.l0 k l0 y299 0) = some r := rh_ hy299 H
 have Ny299 := aa_ hy299
 clear hy299
 have H' := aa_ H
 clear H
 go_enter Tryz.func37, Tryz.ntmps37
 go_wp2_with (first | ((with_reducible refine gD_ 7 rfl ?_); refine Kd.R_make k68 _ 68 rfl (N := 7) rfl 33 _ _ rfl (l0.length : Int) rfl rfl Tryz.underlying33 (.agg #[(.int .i64 0), (.bool false), (.int .i64 0), (.slice none 0 0), (.slice none 0 0), (.slice none 0 0)]) 96 info68 rfl (by decide) (by omega) z68 (ok := fun _ => True) (okp := fun _ => True) (k68_mkM _ _ _ z68 (Kd.R_nil _ _ _ _ _) (Kd.R_nil _ _ _ _ _) (Kd.R_nil _ _ _ _ _)) (fun _ hk => hk) trivial (od_) (Nat.le_trans (Nat.mul_le_mul_right _ (od_ : (l0.length : Int).toNat ≤ 2932031007402)) (by omega)) (Below.refl _ _) (Nat.le_refl _) ?_; intro v300 w4 ho5 hb hg_ hnew_; clear hg_ hnew_; (first | rw [← Ny299.out] at ho5 | (simp only [Int.reduceToNat] at ho5; rw [← Ny299.out] at ho5)); have HO301 := aa_ (Kd.R_lower ho5 bls_); replace HB := hbs_ hb; clear hb ho5))
 go_loopg [4] k (fun kq v4 w' => ∃ (x3_1 : List (S68)) (x4_1 : Int), v4 = .int .i64 x4_1 ∧ Aside0 (laws_toPeerS.l0 kq l0 x3_1 x4_1 = some r) ∧ Aside0 (kq ≤ k) ∧ Aside0 (Kd.R k68 68 w' w.heap.size (fun _ => True) v300 x3_1) ∧ Aside0 (Below w.heap.size w w'))
 case atStart => exact ⟨(y299), (0), rf_, H', ⟨Nat.le_refl _⟩, ⟨rr_ HO301⟩, ⟨bl_⟩⟩
 case round =>
  clear H'
  try clear c2b0
  try clear c2b1
  try clear p2
  try clear c3b0
  try clear c3b1
  obtain ⟨x3_1, x4_1, rfl, HA, HK1, HO_3, HB⟩ := hrel
  cases gk with
  | zero => exact absurd HA.out (by simp [laws_toPeerS.l0])
  | succ k1 =>
   have H := HA.out
   clear HA
   simp only [laws_toPeerS.l0] at H
   by_cases c6 : x4_1 < (l0.length : Int)
   ·rw [if_pos c6] at H
    have c6b0 : decide (x4_1 < (l0.length : Int)) = true := decide_eq_true c6
    clear c6
    obtain ⟨c7b0, H⟩ := ifd_ H
    obtain ⟨⟨t303, t304, t305, t306, t309, t312⟩, A8, H⟩ := bindE_ H
    replace H : (if x4_1 < (x3_1.length : Int) then (laws_toPeerS.l0 k1 l0 (x3_1.set (x4_1 : Int).toNat (⟨t303, t304, t305, t306, t309, t312⟩ : S68)) (wrap64 (x4_1 + 1))) else (none)) = some r := H
    obtain ⟨c9b0, H⟩ := ifd_ H
    obtain ⟨y315, hy315⟩ : ∃ y_ : List (S68), y_ = (x3_1.set (x4_1 : Int).toNat (⟨t303, t304, t305, t306, t309, t312⟩ : S68)) := ⟨_, rfl⟩
    replace H : (laws_toPeerS.l0 k1 l0 y315 (wrap64 (x4_1 + 1))) = some r := rh_ hy315 H
    have Ny315 := aa_ hy315
    clear hy315
    have H' := aa_ H
    clear H
    have p302 : 0 ≤ (x4_1 : Int) := od_
    have q302 : x4_1 < (l0.length : Int) := od_
    obtain ⟨ad302, A302_3, c302_3, A302_4, c302_4, A302_5, c302_5, e302, hx302_0, hx302_1, hx302_2, hx302_3, hx302_4, hx302_5, hl302_3, hi302_3, hl302_4, hi302_4, hl302_5, hi302_5⟩ := at_T104 HR0.out x4_1 p302 q302
    cases e302
    replace hx302_0 := cb_ HB hx302_0
    replace hx302_1 := cb_ HB hx302_1
    replace hx302_2 := cb_ HB hx302_2
    replace hx302_3 := cb_ HB hx302_3
    replace hx302_4 := cb_ HB hx302_4
    replace hx302_5 := cb_ HB hx302_5
    have HR302_3 := aa_ hi302_3
    have HC302_3 := aa_ hl302_3
    clear hi302_3 hl302_3
    have HR302_4 := aa_ hi302_4
    have HC302_4 := aa_ hl302_4
    clear hi302_4 hl302_4
    have HR302_5 := aa_ hi302_5
    have HC302_5 := aa_ hl302_5
    clear hi302_5 hl302_5
    replace p302 := eq_true p302
    replace q302 := eq_true q302
    go_wp2_with (first | ((with_reducible refine gC_ 62 rfl ?_); refine goesC_ (some 20) Tryz.func62 #[.agg #[.int .i64 ((rd_T104 l0 x4_1).f0), .bool ((rd_T104 l0 x4_1).f1), .int .i64 ((rd_T104 l0 x4_1).f2), .slice A302_3 ((rd_T104 l0 x4_1).f3).length c302_3, .slice A302_4 ((rd_T104 l0 x4_1).f4).length c302_4, .slice A302_5 ((rd_T104 l0 x4_1).f5).length c302_5]] ?_; (with_reducible refine (laws_toPeer.calls k1 ((rd_T104 l0 x4_1).f0) ((rd_T104 l0 x4_1).f1) ((rd_T104 l0 x4_1).f2) _ _ ((rd_T104 l0 x4_1).f3) _ _ ((rd_T104 l0 x4_1).f4) _ _ ((rd_T104 l0 x4_1).f5) t303 t304 t305 t306 t309 t312 _ ?side1 ?side2 ?side3 ?side4 ?side5 ?side6 A8.out).mono ?_); (case side1 => repeat (first | exact (Kd.C_below HR302_3.out HB.out) | (with_reducible refine Kd.C_alloc ?_ _) | (with_reducible refine Kd.C_drewN ?_ _) | (with_reducible refine Kd.C_drew ?_))); (case side2 => exact HC302_3.out); (case side3 => repeat (first | exact (Kd.C_below HR302_4.out HB.out) | (with_reducible refine Kd.C_alloc ?_ _) | (with_reducible refine Kd.C_drewN ?_ _) | (with_reducible refine Kd.C_drew ?_))); (case side4 => exact HC302_4.out); (case side5 => repeat (first | exact (Kd.C_below HR302_5.out HB.out) | (with_reducible refine Kd.C_alloc ?_ _) | (with_reducible refine Kd.C_drewN ?_ _) | (with_reducible refine Kd.C_drew ?_))); (case side6 => exact HC302_5.out); rintro e w11 ⟨v307, v310, v313, rfl, ho0, ho1, ho2, hb⟩; refine ⟨_, rfl, ?_⟩; replace HO_3 := aa_ (Kd.R_mono (Kd.R_told (Kd.R_told (Kd.R_told (Kd.R_old (rr_ HO_3) hb) (Kd.R_base ho0)) (Kd.R_base ho1)) (Kd.S_base ho2)) (fun _ h_ => h_.1)); have HO308 := aa_ (Kd.R_lower ho0 bls_); have HO311 := aa_ (Kd.R_lower ho1 bls_); have HO314 := aa_ (Kd.S_lower ho2 bls_); replace HB := hbs_ hb; (try clear hb ho0 ho1 ho2); have p10 : 0 ≤ (x4_1 : Int) := od_; have q10 : (x4_1 : Int) < ((x3_1.length : Int) : Int) := od_; obtain ⟨go10, co10, eo10, gb10, gl10, cl10, HG10⟩ := Kd.R_form HO_3.out (by omega); (first | cases eo10 | (injection eo10 with ea_ en_ ec_; (first | subst ea_ | (injection ea_ with ea_; subst ea_)); subst ec_; clear en_)); have GB10 := aa_ gb10; have GG10 := aa_ HG10; clear gb10 gl10 HG10; obtain ⟨ce10, hcl10, hM10, hcc10, hfr10⟩ := Kd.R_elem HO_3.out z68 (x4_1 : Int) p10 q10; obtain ⟨ve10_3, ve10_4, ve10_5, rfl, ge10_3, ge10_4, ge10_5⟩ := k68_openM hM10; have hx10_0 : w11.cell? ⟨go10, (x4_1 : Int).toNat * 6, none⟩ = some (.int .i64 ((rd_T68 x3_1 x4_1).f0)) := hcc10 0 _ rfl; have hx10_1 : w11.cell? ⟨go10, (x4_1 : Int).toNat * 6 + 1, none⟩ = some (.bool ((rd_T68 x3_1 x4_1).f1)) := hcc10 1 _ rfl; have hx10_2 : w11.cell? ⟨go10, (x4_1 : Int).toNat * 6 + 2, none⟩ = some (.int .i64 ((rd_T68 x3_1 x4_1).f2)) := hcc10 2 _ rfl; have hx10_3 : w11.cell? ⟨go10, (x4_1 : Int).toNat * 6 + 3, none⟩ = some (ve10_3) := hcc10 3 _ rfl; have hx10_4 : w11.cell? ⟨go10, (x4_1 : Int).toNat * 6 + 4, none⟩ = some (ve10_4) := hcc10 4 _ rfl; have hx10_5 : w11.cell? ⟨go10, (x4_1 : Int).toNat * 6 + 5, none⟩ = some (ve10_5) := hcc10 5 _ rfl; have hf10_0 : w11.frozen? ⟨go10, (x4_1 : Int).toNat * 6, none⟩ = false := hfr10 0; have hf10_1 : w11.frozen? ⟨go10, (x4_1 : Int).toNat * 6 + 1, none⟩ = false := hfr10 1; have hf10_2 : w11.frozen? ⟨go10, (x4_1 : Int).toNat * 6 + 2, none⟩ = false := hfr10 2; have hf10_3 : w11.frozen? ⟨go10, (x4_1 : Int).toNat * 6 + 3, none⟩ = false := hfr10 3; have hf10_4 : w11.frozen? ⟨go10, (x4_1 : Int).toNat * 6 + 4, none⟩ = false := hfr10 4; have hf10_5 : w11.frozen? ⟨go10, (x4_1 : Int).toNat * 6 + 5, none⟩ = false := hfr10 5; clear hcl10 hcc10 hfr10 hM10; replace p10 := eq_true p10; replace q10 := eq_true q10; have n_ := aa_ (Kd.R_mono (ok' := (fun k_ => some k_ ≠ (v307 : Value).ownBlock ∧ some k_ ≠ (v310 : Value).ownBlock ∧ some k_ ≠ (v313 : Value).ownBlock)) HO_3.out (fun k_ hk => ⟨hk.1.1.2, ⟨hk.1.2, hk.2⟩⟩)); clear HO_3; have HO_3 := n_; clear n_; have honeo14 := one_R_ Tryz.prog HO308.out; have honeo15 := one_R_ Tryz.prog HO311.out; have honeo16 := one_S_ Tryz.prog HO314.out; have HX12 := aa_ (show Kd.R k68 68 w11 w.heap.size (fun _ => True) (.slice (some ⟨go10, 0, none⟩) x3_1.length co10) x3_1 from (by (with_reducible repeat (first | apply Kd.R_alloc | apply Kd.R_drewN | apply Kd.R_drew)); exact Kd.R_mono HO_3.out (fun _ hk => trivial))); obtain ⟨ce12, hcl12, hM12, hcc12, hfr12⟩ := Kd.R_elem HX12.out z68 (x4_1 : Int) (od_) (by have h_ : (x4_1 : Int) < ((x3_1.length : Int) : Int) := od_; first | exact h_ | (have e_ := (Kd.R_reads' HO_3.out).1; omega) | simpa using h_); obtain ⟨ve12_3, ve12_4, ve12_5, rfl, ge12_3, ge12_4, ge12_5⟩ := k68_openM hM12; have HP12 := Kd.R_seg HX12.out (x4_1 : Int) (od_) (by have h_ : (x4_1 : Int) < ((x3_1.length : Int) : Int) := od_; first | exact h_ | (have e_ := (Kd.R_reads' HO_3.out).1; omega) | simpa using h_) (seg := [.int .i64 t303, .bool t304, .int .i64 t305, v307, v310, v313]) (j := 0) hcl12 hcc12 (show 6 ≤ 6 from by decide) (x' := (⟨t303, t304, t305, t306, t309, t312⟩ : S68)) (k68_mkM _ _ _ (⟨t303, t304, t305, t306, t309, t312⟩ : S68) (Kd.R_mono (Kd.R_apart' (HO308.out) (Kd.R_typed HO_3.out) (by decide)) (fun k_ hk => ⟨trivial, fun e_ => (hk.2) (by rw [e_]; rfl)⟩)) (Kd.R_mono (Kd.R_apart' (HO311.out) (Kd.R_typed HO_3.out) (by decide)) (fun k_ hk => ⟨trivial, fun e_ => (hk.2) (by rw [e_]; rfl)⟩)) (Kd.R_mono (Kd.R_apart' ((Kd.S_R HO314.out)) (Kd.R_typed HO_3.out) (by decide)) (fun k_ hk => ⟨trivial, fun e_ => (hk.2) (by rw [e_]; rfl)⟩))) (fun _ hk => hk); have hx12_0 := hcc12 0 _ rfl; (try simp only [show (k68).sz = 6 from rfl, Nat.mul_one, Nat.add_zero] at hx12_0); have hf12_0 := hfr12 0; (try simp only [show (k68).sz = 6 from rfl, Nat.mul_one, Nat.add_zero] at hf12_0); have hx12_1 := hcc12 1 _ rfl; (try simp only [show (k68).sz = 6 from rfl, Nat.mul_one, Nat.add_zero] at hx12_1); have hf12_1 := hfr12 1; (try simp only [show (k68).sz = 6 from rfl, Nat.mul_one, Nat.add_zero] at hf12_1); have hx12_2 := hcc12 2 _ rfl; (try simp only [show (k68).sz = 6 from rfl, Nat.mul_one, Nat.add_zero] at hx12_2); have hf12_2 := hfr12 2; (try simp only [show (k68).sz = 6 from rfl, Nat.mul_one, Nat.add_zero] at hf12_2); have hx12_3 := hcc12 3 _ rfl; (try simp only [show (k68).sz = 6 from rfl, Nat.mul_one, Nat.add_zero] at hx12_3); have hf12_3 := hfr12 3; (try simp only [show (k68).sz = 6 from rfl, Nat.mul_one, Nat.add_zero] at hf12_3); have hx12_4 := hcc12 4 _ rfl; (try simp only [show (k68).sz = 6 from rfl, Nat.mul_one, Nat.add_zero] at hx12_4); have hf12_4 := hfr12 4; (try simp only [show (k68).sz = 6 from rfl, Nat.mul_one, Nat.add_zero] at hf12_4); have hx12_5 := hcc12 5 _ rfl; (try simp only [show (k68).sz = 6 from rfl, Nat.mul_one, Nat.add_zero] at hx12_5); have hf12_5 := hfr12 5; (try simp only [show (k68).sz = 6 from rfl, Nat.mul_one, Nat.add_zero] at hf12_5); clear hcl12 hcc12 hfr12 hM12) | ((with_reducible refine gate_store (t := 68) (p := 21) rfl ?_); refine store_event (t := 68) (p := 21) (v := ?vo_w13) (w1 := ((((((w11.setCell ⟨go10, (x4_1 : Int).toNat * 6, none⟩ (.int .i64 t303)).setCell ⟨go10, (x4_1 : Int).toNat * 6 + 1, none⟩ (.bool t304)).setCell ⟨go10, (x4_1 : Int).toNat * 6 + 2, none⟩ (.int .i64 t305)).setCell ⟨go10, (x4_1 : Int).toNat * 6 + 3, none⟩ (v307)).setCell ⟨go10, (x4_1 : Int).toNat * 6 + 4, none⟩ (v310)).setCell ⟨go10, (x4_1 : Int).toNat * 6 + 5, none⟩ (v313))) ?hg ?ho ?hn ?hr ?_; (case ho => rfl); (case hg => rfl); (case hn => rfl); (case hr => first | (go_simp; done) | (go_simp; rfl)); intro w13 hw; have hg : w11.grownBy w13 (some go10) := (by rw [hw]; exact HP12.2); have hp_ : Kd.R k68 68 w13 w.heap.size (fun _ => True) (.slice (some ⟨go10, 0, none⟩) x3_1.length co10) y315 := (by rw [hw, Ny315.out]; exact HP12.1); clear HP12; replace HO_3 := aa_ (hp_); replace HB := aa_ ((by rw [hw]; exact below_set (below_set (below_set (below_set (below_set (below_set (HB.out) GB10.out) GB10.out) GB10.out) GB10.out) GB10.out) GB10.out : Below w.heap.size w w13)); clear HO308; clear HO311; clear HO314; clear hg hw hp_))
    go_roundg k1
    case measure => have := HK1.out; omega
    case rel => exact ⟨(y315), (wrap64 (x4_1 + 1)), rf_, H', ⟨by have := HK1.out; omega⟩, ⟨rr_ HO_3⟩, ⟨bl_⟩⟩
   ·rw [if_neg c6] at H
    have c6b0 : decide (x4_1 < (l0.length : Int)) = false := decide_eq_false c6
    clear c6
    obtain rfl := Option.some.inj H
    go_wp2
    go_ret
    exact ⟨_, eq_, by (with_reducible repeat (first | apply Kd.R_alloc | apply Kd.R_drewN | apply Kd.R_drew)); exact HO_3.out, bl_⟩
def laws_toRing.f (k : Nat) (l0_0 : List (S104)) : Option ((List (S68))) := (laws_toPeerS.f k l0_0).bind fun t319 => (some t319)
set_option maxHeartbeats 8000000 in
set_option maxRecDepth 100000 in
theorem laws_toRing.calls (k : Nat) (A0_0 : Option Addr) (c0_0 : Nat) (l0_0 : List (S104)) (r : List (S68)) (w : World) (hr0_0 : Kd.C k104 w A0_0 l0_0.length l0_0) (hc0_0 : l0_0.length ≤ c0_0) (h : laws_toRing.f k l0_0 = some r) :
  Calls Tryz.prog 16 #[.agg #[.slice A0_0 l0_0.length c0_0]] w fun e w' => ∃ v0_ : Value, e = .returned (.agg #[v0_]) ∧ Kd.R k68 68 w' w.heap.size (fun _ => True) v0_ r ∧ Below w.heap.size w w' := by
 have hu24 := Tryz.underlying24
 have hu35 := Tryz.underlying35
 have HR0_0 := aa_ hr0_0
 have HC0_0 := aa_ hc0_0
 clear hr0_0 hc0_0
 have HB := aa_ (Below.refl w.heap.size w)
 have H : ((laws_toPeerS.f k l0_0).bind fun t319 => (some t319)) = some r := h
 clear h
 obtain ⟨t319, A2, H⟩ := bindE_ H
 obtain rfl := Option.some.inj H
 go_enter Tryz.func16, Tryz.ntmps16
 go_wp2_with (first | ((with_reducible refine gD_ 1 rfl ?_); refine bx_ (N := 1) (cs := #[.slice A0_0 l0_0.length c0_0]) (t := 24) ?_; intro gb316 hg w3 hbox hb; have BK316 := aa_ (hbox); have GW316 := gs_ hg; have GE316 := gs_ hg; replace HB := hbs_ hb; clear hb hbox hg) | ((with_reducible refine gD_ 2 rfl ?_); refine bx_ (N := 2) (cs := #[.slice none 0 0]) (t := 35) ?_; intro gb317 hg w4 hbox hb; have BK317 := aa_ (hbox); have GW317 := gs_ hg; have GE317 := gs_ hg; replace HB := hbs_ hb; have NB316_317 := nl_ hg BK316; have NB317_316 := nr_ hg BK316; replace BK316 := bkb_ BK316 hb; clear hb hbox hg) | ((with_reducible refine gD_ 3 rfl ?_); refine bx_ (N := 3) (cs := #[.slice none 0 0]) (t := 35) ?_; intro gb318 hg w5 hbox hb; have BK318 := aa_ (hbox); have GW318 := gs_ hg; have GE318 := gs_ hg; replace HB := hbs_ hb; have NB316_318 := nl_ hg BK316; have NB318_316 := nr_ hg BK316; replace BK316 := bkb_ BK316 hb; have NB317_318 := nl_ hg BK317; have NB318_317 := nr_ hg BK317; replace BK317 := bkb_ BK317 hb; clear hb hbox hg; have hnb6 := NB316_317.out; have hnc6 := NB317_316.out; have hnb7 := NB316_318.out; have hnc7 := NB318_316.out; obtain ⟨hcz8, hfz8⟩ := bcf_ BK316) | ((with_reducible refine gC_ 37 rfl ?_); refine goesC_ (some 6) Tryz.func37 #[.slice A0_0 l0_0.length c0_0] ?_; (with_reducible refine (laws_toPeerS.calls k _ _ l0_0 t319 _ ?side1 ?side2 A2.out).mono ?_); (case side1 => repeat (first | exact (Kd.C_below HR0_0.out HB.out) | (with_reducible refine Kd.C_alloc ?_ _) | (with_reducible refine Kd.C_drewN ?_ _) | (with_reducible refine Kd.C_drew ?_))); (case side2 => exact HC0_0.out); rintro e w9 ⟨v320, rfl, ho0, hb⟩; refine ⟨_, rfl, ?_⟩; have HO321 := aa_ (Kd.R_lower ho0 bls_); replace BK316 := bkb_ BK316 hb; replace BK317 := bkb_ BK317 hb; replace BK318 := bkb_ BK318 hb; replace HB := hbs_ hb; (try clear hb ho0); obtain ⟨Ao10, co10, eo10⟩ := Kd.R_slice HO321.out; subst eo10; have hnb11 := NB318_317.out; have hnc11 := NB317_318.out; obtain ⟨hcz12, hfz12⟩ := bcf_ BK318; obtain ⟨hcz13, hfz13⟩ := bcf_ BK317))
 refine bodyPost_ret (results_cell_row rfl _ _ gb317 35 #[.slice Ao10 t319.length co10] (0, 0) _ rfl (bk_ BK317) Tryz.underlying35 rfl (by kernel_rfl)) rfl ?_
 exact ⟨_, eq_, by (with_reducible repeat (first | apply Kd.R_alloc | apply Kd.R_drewN | apply Kd.R_drew)); exact Kd.R_mono (Kd.R_far (p := ⟨gb317, 0, none⟩) (Kd.R_far (p := ⟨gb318, 0, none⟩) (Kd.R_types (Kd.R_types HO321.out BK318.out (by decide)) BK317.out (by decide)) (fun _ hk => hk.1.2) (.slice Ao10 t319.length co10)) (fun _ hk => hk.2) (.slice Ao10 t319.length co10)) (fun _ hk => trivial), bl_⟩
def laws_toRole.f (a0_0 : Int) (a0_1 : Int) : Option (Int × Int) := some (a0_0, a0_1)
set_option maxHeartbeats 8000000 in
set_option maxRecDepth 100000 in
theorem laws_toRole.calls (a0_0 : Int) (a0_1 : Int) (r1 : Int) (r2 : Int) (w : World) (h : laws_toRole.f a0_0 a0_1 = some (r1, r2)) :
  Calls Tryz.prog 63 #[.agg #[.int .i64 a0_0, .int .i64 a0_1]] w fun e w' => e = .returned (.agg #[.int .i64 r1, .int .i64 r2]) ∧ Below w.heap.size w w' := by
 have hu86 := Tryz.underlying86
 have hu77 := Tryz.underlying77
 have HB := aa_ (Below.refl w.heap.size w)
 have H : (some (a0_0, a0_1)) = some (r1, r2) := h
 clear h
 simp only [Option.some.injEq, Prod.mk.injEq] at H
 obtain ⟨rfl, rfl⟩ := H
 go_enter Tryz.func63, Tryz.ntmps63
 go_wp2_with (first | ((with_reducible refine gD_ 1 rfl ?_); refine bx_ (N := 1) (cs := #[.int .i64 a0_0, .int .i64 a0_1]) (t := 86) ?_; intro gb322 hg w2 hbox hb; have BK322 := aa_ (hbox); have GW322 := gs_ hg; have GE322 := gs_ hg; replace HB := hbs_ hb; clear hb hbox hg) | ((with_reducible refine gD_ 2 rfl ?_); refine bx_ (N := 2) (cs := #[.int .i64 0, .int .i64 0]) (t := 77) ?_; intro gb323 hg w3 hbox hb; have BK323 := aa_ (hbox); have GW323 := gs_ hg; have GE323 := gs_ hg; replace HB := hbs_ hb; have NB322_323 := nl_ hg BK322; have NB323_322 := nr_ hg BK322; replace BK322 := bkb_ BK322 hb; clear hb hbox hg) | ((with_reducible refine gD_ 3 rfl ?_); refine bx_ (N := 3) (cs := #[.int .i64 0, .int .i64 0]) (t := 77) ?_; intro gb324 hg w4 hbox hb; have BK324 := aa_ (hbox); have GW324 := gs_ hg; have GE324 := gs_ hg; replace HB := hbs_ hb; have NB322_324 := nl_ hg BK322; have NB324_322 := nr_ hg BK322; replace BK322 := bkb_ BK322 hb; have NB323_324 := nl_ hg BK323; have NB324_323 := nr_ hg BK323; replace BK323 := bkb_ BK323 hb; clear hb hbox hg; have hnb5 := NB322_323.out; have hnc5 := NB323_322.out; have hnb6 := NB322_324.out; have hnc6 := NB324_322.out; obtain ⟨hcz7, hfz7⟩ := bcf_ BK322; have hnb8 := NB324_323.out; have hnc8 := NB323_324.out; obtain ⟨hcz9, hfz9⟩ := bcf_ BK324; obtain ⟨hcz10, hfz10⟩ := bcf_ BK323))
 refine bodyPost_ret (results_cell_row rfl _ _ gb323 77 #[.int .i64 a0_0, .int .i64 a0_1] (0, 0) _ rfl (bk_ BK323) Tryz.underlying77 rfl (by kernel_rfl)) rfl ?_
 exact ⟨eq_, bl_⟩
def laws_toCred.f (a0_0 : Int) (a0_1 : Int) (a0_2 : Int) (a0_3 : Int) (a0_4 : Int) (a0_5 : Int) (a0_6 : Int) (a0_7 : Int) (a0_8 : Int) (a0_9 : Int) : Option (Int × Int × Int × Int × Int × Int × Int × Int × Int × Int) := (laws_toRole.f a0_1 a0_2).bind fun bt328 => ((laws_toRole.f a0_4 a0_5).bind fun bt330 => ((laws_toRole.f a0_6 a0_7).bind fun bt332 => (some (a0_0, bt328.1, bt328.2, a0_3, bt330.1, bt330.2, bt332.1, bt332.2, a0_8, a0_9))))
set_option maxHeartbeats 8000000 in
set_option maxRecDepth 100000 in
theorem laws_toCred.calls (a0_0 : Int) (a0_1 : Int) (a0_2 : Int) (a0_3 : Int) (a0_4 : Int) (a0_5 : Int) (a0_6 : Int) (a0_7 : Int) (a0_8 : Int) (a0_9 : Int) (r1 : Int) (r2 : Int) (r3 : Int) (r4 : Int) (r5 : Int) (r6 : Int) (r7 : Int) (r8 : Int) (r9 : Int) (r10 : Int) (w : World) (h : laws_toCred.f a0_0 a0_1 a0_2 a0_3 a0_4 a0_5 a0_6 a0_7 a0_8 a0_9 = some (r1, r2, r3, r4, r5, r6, r7, r8, r9, r10)) :
  Calls Tryz.prog 38 #[.agg #[.int .i64 a0_0, .int .i64 a0_1, .int .i64 a0_2, .int .i64 a0_3, .int .i64 a0_4, .int .i64 a0_5, .int .i64 a0_6, .int .i64 a0_7, .int .i64 a0_8, .int .i64 a0_9]] w fun e w' => e = .returned (.agg #[.int .i64 r1, .int .i64 r2, .int .i64 r3, .int .i64 r4, .int .i64 r5, .int .i64 r6, .int .i64 r7, .int .i64 r8, .int .i64 r9, .int .i64 r10]) ∧ Below w.heap.size w w' := by
 have hu88 := Tryz.underlying88
 have hu83 := Tryz.underlying83
 have hu86 := Tryz.underlying86
 have hu77 := Tryz.underlying77
 have HB := aa_ (Below.refl w.heap.size w)
 have H : ((laws_toRole.f a0_1 a0_2).bind fun bt328 => ((laws_toRole.f a0_4 a0_5).bind fun bt330 => ((laws_toRole.f a0_6 a0_7).bind fun bt332 => (some (a0_0, bt328.1, bt328.2, a0_3, bt330.1, bt330.2, bt332.1, bt332.2, a0_8, a0_9))))) = some (r1, r2, r3, r4, r5, r6, r7, r8, r9, r10) := h
 clear h
 obtain ⟨⟨t328, t329⟩, A2, H⟩ := bindE_ H
 (try dsimp only at H)
 obtain ⟨⟨t330, t331⟩, A3, H⟩ := bindE_ H
 (try dsimp only at H)
 obtain ⟨⟨t332, t333⟩, A4, H⟩ := bindE_ H
 (try dsimp only at H)
 simp only [Option.some.injEq, Prod.mk.injEq] at H
 obtain ⟨rfl, rfl, rfl, rfl, rfl, rfl, rfl, rfl, rfl, rfl⟩ := H
 go_enter Tryz.func38, Tryz.ntmps38
 go_wp2_with (first | ((with_reducible refine gD_ 1 rfl ?_); refine bx_ (N := 1) (cs := #[.int .i64 a0_0, .int .i64 a0_1, .int .i64 a0_2, .int .i64 a0_3, .int .i64 a0_4, .int .i64 a0_5, .int .i64 a0_6, .int .i64 a0_7, .int .i64 a0_8, .int .i64 a0_9]) (t := 88) ?_; intro gb325 hg w5 hbox hb; have BK325 := aa_ (hbox); have GW325 := gs_ hg; have GE325 := gs_ hg; replace HB := hbs_ hb; clear hb hbox hg) | ((with_reducible refine gD_ 2 rfl ?_); refine bx_ (N := 2) (cs := #[.int .i64 0, .int .i64 0, .int .i64 0, .int .i64 0, .int .i64 0, .int .i64 0, .int .i64 0, .int .i64 0, .int .i64 0, .int .i64 0]) (t := 83) ?_; intro gb326 hg w6 hbox hb; have BK326 := aa_ (hbox); have GW326 := gs_ hg; have GE326 := gs_ hg; replace HB := hbs_ hb; have NB325_326 := nl_ hg BK325; have NB326_325 := nr_ hg BK325; replace BK325 := bkb_ BK325 hb; clear hb hbox hg) | ((with_reducible refine gD_ 3 rfl ?_); refine bx_ (N := 3) (cs := #[.int .i64 0, .int .i64 0, .int .i64 0, .int .i64 0, .int .i64 0, .int .i64 0, .int .i64 0, .int .i64 0, .int .i64 0, .int .i64 0]) (t := 83) ?_; intro gb327 hg w7 hbox hb; have BK327 := aa_ (hbox); have GW327 := gs_ hg; have GE327 := gs_ hg; replace HB := hbs_ hb; have NB325_327 := nl_ hg BK325; have NB327_325 := nr_ hg BK325; replace BK325 := bkb_ BK325 hb; have NB326_327 := nl_ hg BK326; have NB327_326 := nr_ hg BK326; replace BK326 := bkb_ BK326 hb; clear hb hbox hg; have hnb8 := NB325_326.out; have hnc8 := NB326_325.out; have hnb9 := NB325_327.out; have hnc9 := NB327_325.out; obtain ⟨hcz10, hfz10⟩ := bcf_ BK325; have hnb11 := NB327_326.out; have hnc11 := NB326_327.out; obtain ⟨hcz12, hfz12⟩ := bcf_ BK327) | ((with_reducible refine gC_ 63 rfl ?_); refine goesC_ (some 9) Tryz.func63 #[.agg #[.int .i64 a0_1, .int .i64 a0_2]] ?_; (with_reducible refine (laws_toRole.calls a0_1 a0_2 t328 t329 _ A2.out).mono ?_); rintro e w13 ⟨rfl, hb⟩; refine ⟨_, rfl, ?_⟩; replace BK325 := aa_ (blk_below (g := gb325) (o := .cells #[.int .i64 a0_0, .int .i64 a0_1, .int .i64 a0_2, .int .i64 a0_3, .int .i64 a0_4, .int .i64 a0_5, .int .i64 a0_6, .int .i64 a0_7, .int .i64 a0_8, .int .i64 a0_9] 88 (0, 0)) (bk_ BK325) hb); replace BK326 := aa_ (blk_below (g := gb326) (o := .cells #[.int .i64 0, .int .i64 0, .int .i64 0, .int .i64 0, .int .i64 0, .int .i64 0, .int .i64 0, .int .i64 0, .int .i64 0, .int .i64 0] 83 (0, 0)) (bk_ BK326) hb); replace BK327 := aa_ (blk_below (g := gb327) (o := .cells #[.int .i64 a0_0, .int .i64 0, .int .i64 0, .int .i64 0, .int .i64 0, .int .i64 0, .int .i64 0, .int .i64 0, .int .i64 0, .int .i64 0] 83 (0, 0)) (bk_ BK327) hb); replace HB := hbs_ hb; clear hb; obtain ⟨hcz14, hfz14⟩ := bcf_ BK327; obtain ⟨hcz15, hfz15⟩ := bcf_ BK325) | ((with_reducible refine gC_ 63 rfl ?_); refine goesC_ (some 16) Tryz.func63 #[.agg #[.int .i64 a0_4, .int .i64 a0_5]] ?_; (with_reducible refine (laws_toRole.calls a0_4 a0_5 t330 t331 _ A3.out).mono ?_); rintro e w16 ⟨rfl, hb⟩; refine ⟨_, rfl, ?_⟩; replace BK325 := aa_ (blk_below (g := gb325) (o := .cells #[.int .i64 a0_0, .int .i64 a0_1, .int .i64 a0_2, .int .i64 a0_3, .int .i64 a0_4, .int .i64 a0_5, .int .i64 a0_6, .int .i64 a0_7, .int .i64 a0_8, .int .i64 a0_9] 88 (0, 0)) (bk_ BK325) hb); replace BK326 := aa_ (blk_below (g := gb326) (o := .cells #[.int .i64 0, .int .i64 0, .int .i64 0, .int .i64 0, .int .i64 0, .int .i64 0, .int .i64 0, .int .i64 0, .int .i64 0, .int .i64 0] 83 (0, 0)) (bk_ BK326) hb); replace BK327 := aa_ (blk_below (g := gb327) (o := .cells #[.int .i64 a0_0, .int .i64 t328, .int .i64 t329, .int .i64 a0_3, .int .i64 0, .int .i64 0, .int .i64 0, .int .i64 0, .int .i64 0, .int .i64 0] 83 (0, 0)) (bk_ BK327) hb); replace HB := hbs_ hb; clear hb; obtain ⟨hcz17, hfz17⟩ := bcf_ BK327; obtain ⟨hcz18, hfz18⟩ := bcf_ BK325) | ((with_reducible refine gC_ 63 rfl ?_); refine goesC_ (some 20) Tryz.func63 #[.agg #[.int .i64 a0_6, .int .i64 a0_7]] ?_; (with_reducible refine (laws_toRole.calls a0_6 a0_7 t332 t333 _ A4.out).mono ?_); rintro e w19 ⟨rfl, hb⟩; refine ⟨_, rfl, ?_⟩; replace BK325 := aa_ (blk_below (g := gb325) (o := .cells #[.int .i64 a0_0, .int .i64 a0_1, .int .i64 a0_2, .int .i64 a0_3, .int .i64 a0_4, .int .i64 a0_5, .int .i64 a0_6, .int .i64 a0_7, .int .i64 a0_8, .int .i64 a0_9] 88 (0, 0)) (bk_ BK325) hb); replace BK326 := aa_ (blk_below (g := gb326) (o := .cells #[.int .i64 0, .int .i64 0, .int .i64 0, .int .i64 0, .int .i64 0, .int .i64 0, .int .i64 0, .int .i64 0, .int .i64 0, .int .i64 0] 83 (0, 0)) (bk_ BK326) hb); replace BK327 := aa_ (blk_below (g := gb327) (o := .cells #[.int .i64 a0_0, .int .i64 t328, .int .i64 t329, .int .i64 a0_3, .int .i64 t330, .int .i64 t331, .int .i64 0, .int .i64 0, .int .i64 0, .int .i64 0] 83 (0, 0)) (bk_ BK327) hb); replace HB := hbs_ hb; clear hb; obtain ⟨hcz20, hfz20⟩ := bcf_ BK327; obtain ⟨hcz21, hfz21⟩ := bcf_ BK325; obtain ⟨hcz22, hfz22⟩ := bcf_ BK326))
 refine bodyPost_ret (results_cell_row rfl _ _ gb326 83 #[.int .i64 a0_0, .int .i64 t328, .int .i64 t329, .int .i64 a0_3, .int .i64 t330, .int .i64 t331, .int .i64 t332, .int .i64 t333, .int .i64 a0_8, .int .i64 a0_9] (0, 0) _ rfl (bk_ BK326) Tryz.underlying83 rfl (by kernel_rfl)) rfl ?_
 exact ⟨eq_, bl_⟩
def laws_toCredS.l0 : Nat → List (S88) → List (S83) → Int → Option ((List (S83)))
 | 0, _, _, _ => none
 | k + 1, x0, x3, x4 => if x4 < (x0.length : Int) then (if 0 ≤ x4 then ((laws_toCred.f ((rd_T88 x0 x4).f0) ((rd_T88 x0 x4).f1.f0) ((rd_T88 x0 x4).f1.f1) ((rd_T88 x0 x4).f2) ((rd_T88 x0 x4).f3.f0) ((rd_T88 x0 x4).f3.f1) ((rd_T88 x0 x4).f4.f0) ((rd_T88 x0 x4).f4.f1) ((rd_T88 x0 x4).f5) ((rd_T88 x0 x4).f6)).bind fun bt338 => (if x4 < (x3.length : Int) then (laws_toCredS.l0 k x0 (x3.set (x4 : Int).toNat (⟨bt338.1, (⟨bt338.2.1, bt338.2.2.1⟩ : S77), bt338.2.2.2.1, (⟨bt338.2.2.2.2.1, bt338.2.2.2.2.2.1⟩ : S77), (⟨bt338.2.2.2.2.2.2.1, bt338.2.2.2.2.2.2.2.1⟩ : S77), bt338.2.2.2.2.2.2.2.2.1, bt338.2.2.2.2.2.2.2.2.2⟩ : S83)) (wrap64 (x4 + 1))) else (none))) else (none)) else (some x3)
def laws_toCredS.f (k : Nat) (l0 : List (S88)) : Option ((List (S83))) := if 0 ≤ (l0.length : Int) then (if ((l0.length : Int) : Int).toNat ≤ 3518437208883 then (laws_toCredS.l0 k l0 (List.replicate ((l0.length : Int) : Int).toNat z83) 0) else (none)) else (none)
set_option maxHeartbeats 8000000 in
set_option maxRecDepth 100000 in
theorem laws_toCredS.calls (k : Nat) (A0 : Option Addr) (c0 : Nat) (l0 : List (S88)) (r : List (S83)) (w : World) (hr0 : Kd.C k88 w A0 l0.length l0) (hc0 : l0.length ≤ c0) (h : laws_toCredS.f k l0 = some r) :
  Calls Tryz.prog 18 #[.slice A0 l0.length c0] w fun e w' => ∃ v0_ : Value, e = .returned (v0_) ∧ Kd.R k83 83 w' w.heap.size (fun _ => True) v0_ r ∧ Below w.heap.size w w' := by
 have hu88 := Tryz.underlying88
 have hu83 := Tryz.underlying83
 have HR0 := aa_ hr0
 have HC0 := aa_ hc0
 clear hr0 hc0
 have HB := aa_ (Below.refl w.heap.size w)
 have H : (if 0 ≤ (l0.length : Int) then (if ((l0.length : Int) : Int).toNat ≤ 3518437208883 then (laws_toCredS.l0 k l0 (List.replicate ((l0.length : Int) : Int).toNat z83) 0) else (none)) else (none)) = some r := h
 clear h
 obtain ⟨c2, H⟩ := ifn_ H
 have c2b0 := eq_true c2
 have c2b1 : decide (0 ≤ (l0.length : Int)) = true := decide_eq_true c2
 clear c2
 obtain ⟨c3, H⟩ := ifn_ H
 have c3b0 := eq_true c3
 have c3b1 : decide (((l0.length : Int) : Int).toNat ≤ 3518437208883) = true := decide_eq_true c3
 clear c3
 obtain ⟨y334, hy334⟩ : ∃ y_ : List (S83), y_ = (List.replicate ((l0.length : Int) : Int).toNat z83) := ⟨_, rfl⟩
 replace H : (laws_toCredS.l0 k l0 y334 0) = some r := rh_ hy334 H
 have Ny334 := aa_ hy334
 clear hy334
 have H' := aa_ H
 clear H
 go_enter Tryz.func18, Tryz.ntmps18
 go_wp2_with (first | ((with_reducible refine gD_ 7 rfl ?_); refine Kd.R_make k83 _ 83 rfl (N := 7) rfl 36 _ _ rfl (l0.length : Int) rfl rfl Tryz.underlying36 (.agg #[(.int .i64 0), (.int .i64 0), (.int .i64 0), (.int .i64 0), (.int .i64 0), (.int .i64 0), (.int .i64 0), (.int .i64 0), (.int .i64 0), (.int .i64 0)]) 80 info83 rfl (by decide) (by omega) z83 (ok := fun _ => True) (okp := fun _ => True) (k83_mkM _ _ _ z83 ) (fun _ hk => hk) trivial (od_) (Nat.le_trans (Nat.mul_le_mul_right _ (od_ : (l0.length : Int).toNat ≤ 3518437208883)) (by omega)) (Below.refl _ _) (Nat.le_refl _) ?_; intro v335 w4 ho5 hb hg_ hnew_; clear hg_ hnew_; (first | rw [← Ny334.out] at ho5 | (simp only [Int.reduceToNat] at ho5; rw [← Ny334.out] at ho5)); have HO336 := aa_ (Kd.R_lower ho5 bls_); replace HB := hbs_ hb; clear hb ho5))
 go_loopg [4] k (fun kq v4 w' => ∃ (x3_1 : List (S83)) (x4_1 : Int), v4 = .int .i64 x4_1 ∧ Aside0 (laws_toCredS.l0 kq l0 x3_1 x4_1 = some r) ∧ Aside0 (kq ≤ k) ∧ Aside0 (Kd.R k83 83 w' w.heap.size (fun _ => True) v335 x3_1) ∧ Aside0 (Below w.heap.size w w'))
 case atStart => exact ⟨(y334), (0), rf_, H', ⟨Nat.le_refl _⟩, ⟨rr_ HO336⟩, ⟨bl_⟩⟩
 case round =>
  clear H'
  try clear c2b0
  try clear c2b1
  try clear p2
  try clear c3b0
  try clear c3b1
  obtain ⟨x3_1, x4_1, rfl, HA, HK1, HO_3, HB⟩ := hrel
  cases gk with
  | zero => exact absurd HA.out (by simp [laws_toCredS.l0])
  | succ k1 =>
   have H := HA.out
   clear HA
   simp only [laws_toCredS.l0] at H
   by_cases c6 : x4_1 < (l0.length : Int)
   ·rw [if_pos c6] at H
    have c6b0 : decide (x4_1 < (l0.length : Int)) = true := decide_eq_true c6
    clear c6
    obtain ⟨c7b0, H⟩ := ifd_ H
    obtain ⟨⟨t338, t339, t340, t341, t342, t343, t344, t345, t346, t347⟩, A8, H⟩ := bindE_ H
    replace H : (if x4_1 < (x3_1.length : Int) then (laws_toCredS.l0 k1 l0 (x3_1.set (x4_1 : Int).toNat (⟨t338, (⟨t339, t340⟩ : S77), t341, (⟨t342, t343⟩ : S77), (⟨t344, t345⟩ : S77), t346, t347⟩ : S83)) (wrap64 (x4_1 + 1))) else (none)) = some r := H
    obtain ⟨c9b0, H⟩ := ifd_ H
    obtain ⟨y348, hy348⟩ : ∃ y_ : List (S83), y_ = (x3_1.set (x4_1 : Int).toNat (⟨t338, (⟨t339, t340⟩ : S77), t341, (⟨t342, t343⟩ : S77), (⟨t344, t345⟩ : S77), t346, t347⟩ : S83)) := ⟨_, rfl⟩
    replace H : (laws_toCredS.l0 k1 l0 y348 (wrap64 (x4_1 + 1))) = some r := rh_ hy348 H
    have Ny348 := aa_ hy348
    clear hy348
    have H' := aa_ H
    clear H
    have p337 : 0 ≤ (x4_1 : Int) := od_
    have q337 : x4_1 < (l0.length : Int) := od_
    obtain ⟨ad337, e337, hx337_0, hx337_1, hx337_2, hx337_3, hx337_4, hx337_5, hx337_6, hx337_7, hx337_8, hx337_9⟩ := at_T88 (Kd.C_below HR0.out HB.out) x4_1 p337 q337
    cases e337
    replace p337 := eq_true p337
    replace q337 := eq_true q337
    go_wp2_with (first | ((with_reducible refine gC_ 38 rfl ?_); refine goesC_ (some 20) Tryz.func38 #[.agg #[.int .i64 ((rd_T88 l0 x4_1).f0), .int .i64 ((rd_T88 l0 x4_1).f1.f0), .int .i64 ((rd_T88 l0 x4_1).f1.f1), .int .i64 ((rd_T88 l0 x4_1).f2), .int .i64 ((rd_T88 l0 x4_1).f3.f0), .int .i64 ((rd_T88 l0 x4_1).f3.f1), .int .i64 ((rd_T88 l0 x4_1).f4.f0), .int .i64 ((rd_T88 l0 x4_1).f4.f1), .int .i64 ((rd_T88 l0 x4_1).f5), .int .i64 ((rd_T88 l0 x4_1).f6)]] ?_; (with_reducible refine (laws_toCred.calls ((rd_T88 l0 x4_1).f0) ((rd_T88 l0 x4_1).f1.f0) ((rd_T88 l0 x4_1).f1.f1) ((rd_T88 l0 x4_1).f2) ((rd_T88 l0 x4_1).f3.f0) ((rd_T88 l0 x4_1).f3.f1) ((rd_T88 l0 x4_1).f4.f0) ((rd_T88 l0 x4_1).f4.f1) ((rd_T88 l0 x4_1).f5) ((rd_T88 l0 x4_1).f6) t338 t339 t340 t341 t342 t343 t344 t345 t346 t347 _ A8.out).mono ?_); rintro e w11 ⟨rfl, hb⟩; refine ⟨_, rfl, ?_⟩; replace HO_3 := hob_ HO_3 hb; replace HB := hbs_ hb; clear hb; have p10 : 0 ≤ (x4_1 : Int) := od_; have q10 : (x4_1 : Int) < ((x3_1.length : Int) : Int) := od_; obtain ⟨go10, co10, eo10, gb10, gl10, cl10, HG10⟩ := Kd.R_form HO_3.out (by omega); (first | cases eo10 | (injection eo10 with ea_ en_ ec_; (first | subst ea_ | (injection ea_ with ea_; subst ea_)); subst ec_; clear en_)); have GB10 := aa_ gb10; have GG10 := aa_ HG10; clear gb10 gl10 HG10; obtain ⟨ce10, hcl10, hM10, hcc10, hfr10⟩ := Kd.R_elem HO_3.out z83 (x4_1 : Int) p10 q10; obtain rfl := k83_openM hM10; have hx10_0 : w11.cell? ⟨go10, (x4_1 : Int).toNat * 10, none⟩ = some (.int .i64 ((rd_T83 x3_1 x4_1).f0)) := hcc10 0 _ rfl; have hx10_1 : w11.cell? ⟨go10, (x4_1 : Int).toNat * 10 + 1, none⟩ = some (.int .i64 ((rd_T83 x3_1 x4_1).f1.f0)) := hcc10 1 _ rfl; have hx10_2 : w11.cell? ⟨go10, (x4_1 : Int).toNat * 10 + 2, none⟩ = some (.int .i64 ((rd_T83 x3_1 x4_1).f1.f1)) := hcc10 2 _ rfl; have hx10_3 : w11.cell? ⟨go10, (x4_1 : Int).toNat * 10 + 3, none⟩ = some (.int .i64 ((rd_T83 x3_1 x4_1).f2)) := hcc10 3 _ rfl; have hx10_4 : w11.cell? ⟨go10, (x4_1 : Int).toNat * 10 + 4, none⟩ = some (.int .i64 ((rd_T83 x3_1 x4_1).f3.f0)) := hcc10 4 _ rfl; have hx10_5 : w11.cell? ⟨go10, (x4_1 : Int).toNat * 10 + 5, none⟩ = some (.int .i64 ((rd_T83 x3_1 x4_1).f3.f1)) := hcc10 5 _ rfl; have hx10_6 : w11.cell? ⟨go10, (x4_1 : Int).toNat * 10 + 6, none⟩ = some (.int .i64 ((rd_T83 x3_1 x4_1).f4.f0)) := hcc10 6 _ rfl; have hx10_7 : w11.cell? ⟨go10, (x4_1 : Int).toNat * 10 + 7, none⟩ = some (.int .i64 ((rd_T83 x3_1 x4_1).f4.f1)) := hcc10 7 _ rfl; have hx10_8 : w11.cell? ⟨go10, (x4_1 : Int).toNat * 10 + 8, none⟩ = some (.int .i64 ((rd_T83 x3_1 x4_1).f5)) := hcc10 8 _ rfl; have hx10_9 : w11.cell? ⟨go10, (x4_1 : Int).toNat * 10 + 9, none⟩ = some (.int .i64 ((rd_T83 x3_1 x4_1).f6)) := hcc10 9 _ rfl; have hf10_0 : w11.frozen? ⟨go10, (x4_1 : Int).toNat * 10, none⟩ = false := hfr10 0; have hf10_1 : w11.frozen? ⟨go10, (x4_1 : Int).toNat * 10 + 1, none⟩ = false := hfr10 1; have hf10_2 : w11.frozen? ⟨go10, (x4_1 : Int).toNat * 10 + 2, none⟩ = false := hfr10 2; have hf10_3 : w11.frozen? ⟨go10, (x4_1 : Int).toNat * 10 + 3, none⟩ = false := hfr10 3; have hf10_4 : w11.frozen? ⟨go10, (x4_1 : Int).toNat * 10 + 4, none⟩ = false := hfr10 4; have hf10_5 : w11.frozen? ⟨go10, (x4_1 : Int).toNat * 10 + 5, none⟩ = false := hfr10 5; have hf10_6 : w11.frozen? ⟨go10, (x4_1 : Int).toNat * 10 + 6, none⟩ = false := hfr10 6; have hf10_7 : w11.frozen? ⟨go10, (x4_1 : Int).toNat * 10 + 7, none⟩ = false := hfr10 7; have hf10_8 : w11.frozen? ⟨go10, (x4_1 : Int).toNat * 10 + 8, none⟩ = false := hfr10 8; have hf10_9 : w11.frozen? ⟨go10, (x4_1 : Int).toNat * 10 + 9, none⟩ = false := hfr10 9; clear hcl10 hcc10 hfr10 hM10; replace p10 := eq_true p10; replace q10 := eq_true q10; have HX12 := aa_ (show Kd.R k83 83 w11 w.heap.size (fun _ => True) (.slice (some ⟨go10, 0, none⟩) x3_1.length co10) x3_1 from (rr_ HO_3)); obtain ⟨ce12, hcl12, hM12, hcc12, hfr12⟩ := Kd.R_elem HX12.out z83 (x4_1 : Int) (od_) (by have h_ : (x4_1 : Int) < ((x3_1.length : Int) : Int) := od_; first | exact h_ | (have e_ := (Kd.R_reads' HO_3.out).1; omega) | simpa using h_); obtain rfl := k83_openM hM12; have HP12 := Kd.R_seg HX12.out (x4_1 : Int) (od_) (by have h_ : (x4_1 : Int) < ((x3_1.length : Int) : Int) := od_; first | exact h_ | (have e_ := (Kd.R_reads' HO_3.out).1; omega) | simpa using h_) (seg := [.int .i64 t338, .int .i64 t339, .int .i64 t340, .int .i64 t341, .int .i64 t342, .int .i64 t343, .int .i64 t344, .int .i64 t345, .int .i64 t346, .int .i64 t347]) (j := 0) hcl12 hcc12 (show 10 ≤ 10 from by decide) (x' := (⟨t338, (⟨t339, t340⟩ : S77), t341, (⟨t342, t343⟩ : S77), (⟨t344, t345⟩ : S77), t346, t347⟩ : S83)) (k83_mkM _ _ _ (⟨t338, (⟨t339, t340⟩ : S77), t341, (⟨t342, t343⟩ : S77), (⟨t344, t345⟩ : S77), t346, t347⟩ : S83) ) (fun _ hk => hk); have hx12_0 := hcc12 0 _ rfl; (try simp only [show (k83).sz = 10 from rfl, Nat.mul_one, Nat.add_zero] at hx12_0); have hf12_0 := hfr12 0; (try simp only [show (k83).sz = 10 from rfl, Nat.mul_one, Nat.add_zero] at hf12_0); have hx12_1 := hcc12 1 _ rfl; (try simp only [show (k83).sz = 10 from rfl, Nat.mul_one, Nat.add_zero] at hx12_1); have hf12_1 := hfr12 1; (try simp only [show (k83).sz = 10 from rfl, Nat.mul_one, Nat.add_zero] at hf12_1); have hx12_2 := hcc12 2 _ rfl; (try simp only [show (k83).sz = 10 from rfl, Nat.mul_one, Nat.add_zero] at hx12_2); have hf12_2 := hfr12 2; (try simp only [show (k83).sz = 10 from rfl, Nat.mul_one, Nat.add_zero] at hf12_2); have hx12_3 := hcc12 3 _ rfl; (try simp only [show (k83).sz = 10 from rfl, Nat.mul_one, Nat.add_zero] at hx12_3); have hf12_3 := hfr12 3; (try simp only [show (k83).sz = 10 from rfl, Nat.mul_one, Nat.add_zero] at hf12_3); have hx12_4 := hcc12 4 _ rfl; (try simp only [show (k83).sz = 10 from rfl, Nat.mul_one, Nat.add_zero] at hx12_4); have hf12_4 := hfr12 4; (try simp only [show (k83).sz = 10 from rfl, Nat.mul_one, Nat.add_zero] at hf12_4); have hx12_5 := hcc12 5 _ rfl; (try simp only [show (k83).sz = 10 from rfl, Nat.mul_one, Nat.add_zero] at hx12_5); have hf12_5 := hfr12 5; (try simp only [show (k83).sz = 10 from rfl, Nat.mul_one, Nat.add_zero] at hf12_5); have hx12_6 := hcc12 6 _ rfl; (try simp only [show (k83).sz = 10 from rfl, Nat.mul_one, Nat.add_zero] at hx12_6); have hf12_6 := hfr12 6; (try simp only [show (k83).sz = 10 from rfl, Nat.mul_one, Nat.add_zero] at hf12_6); have hx12_7 := hcc12 7 _ rfl; (try simp only [show (k83).sz = 10 from rfl, Nat.mul_one, Nat.add_zero] at hx12_7); have hf12_7 := hfr12 7; (try simp only [show (k83).sz = 10 from rfl, Nat.mul_one, Nat.add_zero] at hf12_7); have hx12_8 := hcc12 8 _ rfl; (try simp only [show (k83).sz = 10 from rfl, Nat.mul_one, Nat.add_zero] at hx12_8); have hf12_8 := hfr12 8; (try simp only [show (k83).sz = 10 from rfl, Nat.mul_one, Nat.add_zero] at hf12_8); have hx12_9 := hcc12 9 _ rfl; (try simp only [show (k83).sz = 10 from rfl, Nat.mul_one, Nat.add_zero] at hx12_9); have hf12_9 := hfr12 9; (try simp only [show (k83).sz = 10 from rfl, Nat.mul_one, Nat.add_zero] at hf12_9); clear hcl12 hcc12 hfr12 hM12) | ((with_reducible refine gate_store (t := 83) (p := 21) rfl ?_); refine store_event (t := 83) (p := 21) (v := ?vo_w13) (w1 := ((((((((((w11.setCell ⟨go10, (x4_1 : Int).toNat * 10, none⟩ (.int .i64 t338)).setCell ⟨go10, (x4_1 : Int).toNat * 10 + 1, none⟩ (.int .i64 t339)).setCell ⟨go10, (x4_1 : Int).toNat * 10 + 2, none⟩ (.int .i64 t340)).setCell ⟨go10, (x4_1 : Int).toNat * 10 + 3, none⟩ (.int .i64 t341)).setCell ⟨go10, (x4_1 : Int).toNat * 10 + 4, none⟩ (.int .i64 t342)).setCell ⟨go10, (x4_1 : Int).toNat * 10 + 5, none⟩ (.int .i64 t343)).setCell ⟨go10, (x4_1 : Int).toNat * 10 + 6, none⟩ (.int .i64 t344)).setCell ⟨go10, (x4_1 : Int).toNat * 10 + 7, none⟩ (.int .i64 t345)).setCell ⟨go10, (x4_1 : Int).toNat * 10 + 8, none⟩ (.int .i64 t346)).setCell ⟨go10, (x4_1 : Int).toNat * 10 + 9, none⟩ (.int .i64 t347))) ?hg ?ho ?hn ?hr ?_; (case ho => rfl); (case hg => rfl); (case hn => rfl); (case hr => first | (go_simp; done) | (go_simp; rfl)); intro w13 hw; have hg : w11.grownBy w13 (some go10) := (by rw [hw]; exact HP12.2); have hp_ : Kd.R k83 83 w13 w.heap.size (fun _ => True) (.slice (some ⟨go10, 0, none⟩) x3_1.length co10) y348 := (by rw [hw, Ny348.out]; exact HP12.1); clear HP12; replace HO_3 := aa_ (hp_); replace HB := aa_ ((by rw [hw]; exact below_set (below_set (below_set (below_set (below_set (below_set (below_set (below_set (below_set (below_set (HB.out) GB10.out) GB10.out) GB10.out) GB10.out) GB10.out) GB10.out) GB10.out) GB10.out) GB10.out) GB10.out : Below w.heap.size w w13)); clear hg hw hp_))
    go_roundg k1
    case measure => have := HK1.out; omega
    case rel => exact ⟨(y348), (wrap64 (x4_1 + 1)), rf_, H', ⟨by have := HK1.out; omega⟩, ⟨rr_ HO_3⟩, ⟨bl_⟩⟩
   ·rw [if_neg c6] at H
    have c6b0 : decide (x4_1 < (l0.length : Int)) = false := decide_eq_false c6
    clear c6
    obtain rfl := Option.some.inj H
    go_wp2
    go_ret
    exact ⟨_, eq_, by (with_reducible repeat (first | apply Kd.R_alloc | apply Kd.R_drewN | apply Kd.R_drew)); exact HO_3.out, bl_⟩
def laws_toFact.f (a0_0 : Int) (a0_1 : Int) (a0_2 : Int) : Option (Int × Int × Int) := (laws_toRole.f a0_0 a0_1).bind fun bt352 => (some (bt352.1, bt352.2, a0_2))
set_option maxHeartbeats 8000000 in
set_option maxRecDepth 100000 in
theorem laws_toFact.calls (a0_0 : Int) (a0_1 : Int) (a0_2 : Int) (r1 : Int) (r2 : Int) (r3 : Int) (w : World) (h : laws_toFact.f a0_0 a0_1 a0_2 = some (r1, r2, r3)) :
  Calls Tryz.prog 40 #[.agg #[.int .i64 a0_0, .int .i64 a0_1, .int .i64 a0_2]] w fun e w' => e = .returned (.agg #[.int .i64 r1, .int .i64 r2, .int .i64 r3]) ∧ Below w.heap.size w w' := by
 have hu92 := Tryz.underlying92
 have hu79 := Tryz.underlying79
 have hu86 := Tryz.underlying86
 have hu77 := Tryz.underlying77
 have HB := aa_ (Below.refl w.heap.size w)
 have H : ((laws_toRole.f a0_0 a0_1).bind fun bt352 => (some (bt352.1, bt352.2, a0_2))) = some (r1, r2, r3) := h
 clear h
 obtain ⟨⟨t352, t353⟩, A2, H⟩ := bindE_ H
 (try dsimp only at H)
 simp only [Option.some.injEq, Prod.mk.injEq] at H
 obtain ⟨rfl, rfl, rfl⟩ := H
 go_enter Tryz.func40, Tryz.ntmps40
 go_wp2_with (first | ((with_reducible refine gD_ 1 rfl ?_); refine bx_ (N := 1) (cs := #[.int .i64 a0_0, .int .i64 a0_1, .int .i64 a0_2]) (t := 92) ?_; intro gb349 hg w3 hbox hb; have BK349 := aa_ (hbox); have GW349 := gs_ hg; have GE349 := gs_ hg; replace HB := hbs_ hb; clear hb hbox hg) | ((with_reducible refine gD_ 2 rfl ?_); refine bx_ (N := 2) (cs := #[.int .i64 0, .int .i64 0, .int .i64 0]) (t := 79) ?_; intro gb350 hg w4 hbox hb; have BK350 := aa_ (hbox); have GW350 := gs_ hg; have GE350 := gs_ hg; replace HB := hbs_ hb; have NB349_350 := nl_ hg BK349; have NB350_349 := nr_ hg BK349; replace BK349 := bkb_ BK349 hb; clear hb hbox hg) | ((with_reducible refine gD_ 3 rfl ?_); refine bx_ (N := 3) (cs := #[.int .i64 0, .int .i64 0, .int .i64 0]) (t := 79) ?_; intro gb351 hg w5 hbox hb; have BK351 := aa_ (hbox); have GW351 := gs_ hg; have GE351 := gs_ hg; replace HB := hbs_ hb; have NB349_351 := nl_ hg BK349; have NB351_349 := nr_ hg BK349; replace BK349 := bkb_ BK349 hb; have NB350_351 := nl_ hg BK350; have NB351_350 := nr_ hg BK350; replace BK350 := bkb_ BK350 hb; clear hb hbox hg; have hnb6 := NB349_350.out; have hnc6 := NB350_349.out; have hnb7 := NB349_351.out; have hnc7 := NB351_349.out; obtain ⟨hcz8, hfz8⟩ := bcf_ BK349) | ((with_reducible refine gC_ 63 rfl ?_); refine goesC_ (some 6) Tryz.func63 #[.agg #[.int .i64 a0_0, .int .i64 a0_1]] ?_; (with_reducible refine (laws_toRole.calls a0_0 a0_1 t352 t353 _ A2.out).mono ?_); rintro e w9 ⟨rfl, hb⟩; refine ⟨_, rfl, ?_⟩; replace BK349 := bkb_ BK349 hb; replace BK350 := bkb_ BK350 hb; replace BK351 := bkb_ BK351 hb; replace HB := hbs_ hb; clear hb; have hnb10 := NB351_350.out; have hnc10 := NB350_351.out; obtain ⟨hcz11, hfz11⟩ := bcf_ BK351; obtain ⟨hcz12, hfz12⟩ := bcf_ BK349; obtain ⟨hcz13, hfz13⟩ := bcf_ BK350))
 refine bodyPost_ret (results_cell_row rfl _ _ gb350 79 #[.int .i64 t352, .int .i64 t353, .int .i64 a0_2] (0, 0) _ rfl (bk_ BK350) Tryz.underlying79 rfl (by kernel_rfl)) rfl ?_
 exact ⟨eq_, bl_⟩
end Go.Proofs.YteofimccoadmeaaGreat.PA
