import Derived.Test.YtkimdmdkldlhpaaKCPAx0
-- printed by wip/tools
namespace Go.Proofs.Ytkimdmdkldlhpaa.PA
open Go.RowKit Go.Proofs.YtkimdmdkldlhpaaW.PrintWords Go.Proofs.YtkimdmdkldlhpaaW.PrintLast Go.Proofs.YtkimdmdkldlhpaaW.PrintMore
attribute [local go_sem] max2_int min2_int max_two min_two max_three min_three max_four min_four
set_option linter.unusedVariables false
set_option linter.unusedSimpArgs false
def laws_toIntS.l0 : Nat → List Int → List Int → Int → Option (List Int)
 | 0, _, _, _ => none
 | k + 1, x0, x3, x4 => if x4 < (x0.length : Int) then (if 0 ≤ x4 then (if x4 < (x3.length : Int) then (laws_toIntS.l0 k x0 (x3.set (x4 : Int).toNat (rd x0 x4)) (wrap64 (x4 + 1))) else (none)) else (none)) else (some x3)
def laws_toIntS.f (k : Nat) (l0 : List Int) : Option (List Int) := if 0 ≤ (l0.length : Int) then (if ((l0.length : Int) : Int).toNat ≤ 35184372088832 then (laws_toIntS.l0 k l0 (List.replicate ((l0.length : Int) : Int).toNat 0) 0) else (none)) else (none)
set_option maxHeartbeats 8000000 in
set_option maxRecDepth 100000 in
theorem laws_toIntS.calls (k : Nat) (A0 : Option Addr) (c0 : Nat) (l0 : List Int) (r : List Int) (w : World) (hr0 : Kd.C (Kd.int .i64) w A0 l0.length l0) (hc0 : l0.length ≤ c0) (h : laws_toIntS.f k l0 = some r) :
  Calls Try.prog 48 #[.slice A0 l0.length c0] w fun e w' => ∃ v0_ : Value, e = .returned (v0_) ∧ Kd.R (Kd.int .i64) 3 w' w.heap.size (fun _ => True) v0_ r ∧ Below w.heap.size w w' := by
 have HR0 := aa_ hr0
 have HC0 := aa_ hc0
 clear hr0 hc0
 have HB := aa_ (Below.refl w.heap.size w)
 have H : (if 0 ≤ (l0.length : Int) then (if ((l0.length : Int) : Int).toNat ≤ 35184372088832 then (laws_toIntS.l0 k l0 (List.replicate ((l0.length : Int) : Int).toNat 0) 0) else (none)) else (none)) = some r := h
 clear h
 obtain ⟨c2, H⟩ := ifn_ H
 have c2b0 := eq_true c2
 have c2b1 : decide (0 ≤ (l0.length : Int)) = true := decide_eq_true c2
 clear c2
 obtain ⟨c3, H⟩ := ifn_ H
 have c3b0 := eq_true c3
 have c3b1 : decide (((l0.length : Int) : Int).toNat ≤ 35184372088832) = true := decide_eq_true c3
 clear c3
 obtain ⟨y283, hy283⟩ : ∃ y_ : List Int, y_ = (List.replicate ((l0.length : Int) : Int).toNat 0) := ⟨_, rfl⟩
 replace H : (laws_toIntS.l0 k l0 y283 0) = some r := rh_ hy283 H
 have Ny283 := aa_ hy283
 clear hy283
 have H' := aa_ H
 clear H
 go_enter Try.func48, Try.ntmps48
 go_wp2_with (first | ((with_reducible refine gD_ 7 rfl ?_); refine Kd.R_make (Kd.int .i64) _ 3 rfl (N := 7) rfl 34 _ _ rfl (l0.length : Int) rfl rfl Try.underlying34 (.int .i64 0) 8 info3 rfl (by decide) (by omega) 0 (ok := fun _ => True) (okp := fun _ => True) rfl (fun _ hk => hk) trivial (od_) (Nat.le_trans (Nat.mul_le_mul_right _ (od_ : (l0.length : Int).toNat ≤ 35184372088832)) (by omega)) (Below.refl _ _) (Nat.le_refl _) ?_; intro v284 w4 ho5 hb hg_ hnew_; clear hg_ hnew_; (first | rw [← Ny283.out] at ho5 | (simp only [Int.reduceToNat] at ho5; rw [← Ny283.out] at ho5)); have HO285 := aa_ (Kd.R_lower ho5 bls_); replace HB := hbs_ hb; clear hb ho5))
 go_loopg [4] k (fun kq v4 w' => ∃ (x3_1 : List Int) (x4_1 : Int), v4 = .int .i64 x4_1 ∧ Aside0 (laws_toIntS.l0 kq l0 x3_1 x4_1 = some r) ∧ Aside0 (kq ≤ k) ∧ Aside0 (Kd.R (Kd.int .i64) 3 w' w.heap.size (fun _ => True) v284 x3_1) ∧ Aside0 (Below w.heap.size w w'))
 case atStart => exact ⟨(y283), (0), rf_, H', ⟨Nat.le_refl _⟩, ⟨rr_ HO285⟩, ⟨bl_⟩⟩
 case round =>
  clear H'
  try clear c2
  try clear c2b0
  try clear c2b1
  try clear p2
  try clear c3
  try clear c3b0
  try clear c3b1
  try clear c4
  obtain ⟨x3_1, x4_1, rfl, HA, HK1, HO_3, HB⟩ := hrel
  cases gk with
  | zero => exact absurd HA.out (by simp [laws_toIntS.l0])
  | succ k1 =>
   have H := HA.out
   clear HA
   simp only [laws_toIntS.l0] at H
   by_cases c6 : x4_1 < (l0.length : Int)
   ·rw [if_pos c6] at H
    have c6b0 : decide (x4_1 < (l0.length : Int)) = true := decide_eq_true c6
    clear c6
    obtain ⟨c7b0, H⟩ := ifd_ H
    obtain ⟨c8b0, H⟩ := ifd_ H
    obtain ⟨y287, hy287⟩ : ∃ y_ : List Int, y_ = (x3_1.set (x4_1 : Int).toNat (rd l0 x4_1)) := ⟨_, rfl⟩
    replace H : (laws_toIntS.l0 k1 l0 y287 (wrap64 (x4_1 + 1))) = some r := rh_ hy287 H
    have Ny287 := aa_ hy287
    clear hy287
    have H' := aa_ H
    clear H
    have p286 : 0 ≤ (x4_1 : Int) := od_
    have q286 : x4_1 < (l0.length : Int) := od_
    obtain ⟨ad286, e286, hx286_0⟩ := Kd.at_int (Kd.C_below HR0.out HB.out) x4_1 p286 q286
    cases e286
    replace p286 := eq_true p286
    replace q286 := eq_true q286
    have p9 : 0 ≤ (x4_1 : Int) := od_
    have q9 : (x4_1 : Int) < ((x3_1.length : Int) : Int) := od_
    obtain ⟨go9, co9, eo9, gb9, gl9, cl9, HG9⟩ := Kd.R_form HO_3.out (by omega)
    (first | cases eo9 | (injection eo9 with ea_ en_ ec_; (first | subst ea_ | (injection ea_ with ea_; subst ea_)); subst ec_; clear en_))
    have GB9 := aa_ gb9
    have GG9 := aa_ HG9
    clear gb9 gl9 HG9
    obtain ⟨hx9_0, hf9_0⟩ := Kd.R_celln 0 HO_3.out (x4_1 : Int) p9 q9
    replace p9 := eq_true p9
    replace q9 := eq_true q9
    have HP10 := Kd.R_putg HO_3.out (x4_1 : Int) (rd l0 x4_1)
    go_wp2_with (first | ((with_reducible refine gate_store (t := 3) (p := 20) rfl ?_); refine store_event (t := 3) (p := 20) (v := ?vo_w11) (w1 := (wr.setCell ⟨go9, (x4_1 : Int).toNat, none⟩ (.int .i64 (rd l0 x4_1)))) ?hg ?ho ?hn ?hr ?_; (case ho => rfl); (case hg => rfl); (case hn => rfl); (case hr => first | (go_simp; done) | (go_simp; rfl)); intro w11 hw; have hg : wr.grownBy w11 (some go9) := (by rw [hw]; exact HP10.2); have hp_ : Kd.R (Kd.int .i64) 3 w11 w.heap.size (fun _ => True) (.slice (some ⟨go9, 0, none⟩) x3_1.length co9) y287 := (by rw [hw, Ny287.out]; exact HP10.1); clear HP10; replace HO_3 := aa_ (hp_); replace HB := aa_ ((by rw [hw]; exact below_set (HB.out) GB9.out : Below w.heap.size w w11)); clear hg hw hp_))
    go_roundg k1
    case measure => have := HK1.out; omega
    case rel => exact ⟨(y287), (wrap64 (x4_1 + 1)), rf_, H', ⟨by have := HK1.out; omega⟩, ⟨rr_ HO_3⟩, ⟨bl_⟩⟩
   ·rw [if_neg c6] at H
    have c6b0 : decide (x4_1 < (l0.length : Int)) = false := decide_eq_false c6
    clear c6
    obtain rfl := Option.some.inj H
    go_wp2
    go_ret
    exact ⟨_, eq_, by (with_reducible repeat (first | apply Kd.R_alloc | apply Kd.R_drewN | apply Kd.R_drew)); exact HO_3.out, bl_⟩
def laws_toItem.f (a0_0 : ByteArray) (a0_1 : Bool) : Option (ByteArray × Bool) := some (a0_0, a0_1)
set_option maxHeartbeats 8000000 in
set_option maxRecDepth 100000 in
theorem laws_toItem.calls (a0_0 : ByteArray) (a0_1 : Bool) (r1 : ByteArray) (r2 : Bool) (w : World) (h : laws_toItem.f a0_0 a0_1 = some (r1, r2)) :
  Calls Try.prog 89 #[.agg #[.string a0_0, .bool a0_1]] w fun e w' => e = .returned (.agg #[.string r1, .bool r2]) ∧ Below w.heap.size w w' := by
 have hu118 := Try.underlying118
 have hu52 := Try.underlying52
 have HB := aa_ (Below.refl w.heap.size w)
 have H : (some (a0_0, a0_1)) = some (r1, r2) := h
 clear h
 simp only [Option.some.injEq, Prod.mk.injEq] at H
 obtain ⟨rfl, rfl⟩ := H
 go_enter Try.func89, Try.ntmps89
 go_wp2_with (first | ((with_reducible refine gD_ 1 rfl ?_); refine bx_ (N := 1) (cs := #[.string a0_0, .bool a0_1]) (t := 118) ?_; intro gb288 hg w2 hbox hb; have BK288 := aa_ (hbox); have GW288 := gs_ hg; have GE288 := gs_ hg; replace HB := hbs_ hb; clear hb hbox hg) | ((with_reducible refine gD_ 2 rfl ?_); refine box_event ?hg (N := 2) ?hd (cs := #[.string (⟨#[]⟩ : ByteArray), .bool false]) (t := 52) ?hr ?_; (case hd => rfl); (case hg => rfl); (case hr => first | (go_simp; done) | (go_simp; rfl)); intro gb289 hg w3 hbox hb; have BK289 := aa_ (hbox); have GW289 := gs_ hg; have GE289 := gs_ hg; replace HB := hbs_ hb; have NB288_289 := nl_ hg BK288; have NB289_288 := nr_ hg BK288; replace BK288 := bkb_ BK288 hb; clear hb hbox hg) | ((with_reducible refine gD_ 3 rfl ?_); refine box_event ?hg (N := 3) ?hd (cs := #[.string (⟨#[]⟩ : ByteArray), .bool false]) (t := 52) ?hr ?_; (case hd => rfl); (case hg => rfl); (case hr => first | (go_simp; done) | (go_simp; rfl)); intro gb290 hg w4 hbox hb; have BK290 := aa_ (hbox); have GW290 := gs_ hg; have GE290 := gs_ hg; replace HB := hbs_ hb; have NB288_290 := nl_ hg BK288; have NB290_288 := nr_ hg BK288; replace BK288 := bkb_ BK288 hb; have NB289_290 := nl_ hg BK289; have NB290_289 := nr_ hg BK289; replace BK289 := bkb_ BK289 hb; clear hb hbox hg; have hnb5 := NB288_289.out; have hnc5 := NB289_288.out; have hnb6 := NB288_290.out; have hnc6 := NB290_288.out; obtain ⟨hcz7, hfz7⟩ := bcf_ BK288; have hnb8 := NB290_289.out; have hnc8 := NB289_290.out; obtain ⟨hcz9, hfz9⟩ := bcf_ BK290; obtain ⟨hcz10, hfz10⟩ := bcf_ BK289))
 refine bodyPost_ret (results_cell_row rfl _ _ gb289 52 #[.string a0_0, .bool a0_1] (0, 0) _ rfl (bk_ BK289) Try.underlying52 rfl (by kernel_rfl)) rfl ?_
 exact ⟨eq_, bl_⟩
def laws_toItemS.l0 : Nat → List (S118) → List (S52) → Int → Option ((List (S52)))
 | 0, _, _, _ => none
 | k + 1, x0, x3, x4 => if x4 < (x0.length : Int) then (if 0 ≤ x4 then ((laws_toItem.f ((rd_T118 x0 x4).f0) ((rd_T118 x0 x4).f1)).bind fun bt295 => (if x4 < (x3.length : Int) then (laws_toItemS.l0 k x0 (x3.set (x4 : Int).toNat (⟨bt295.1, bt295.2⟩ : S52)) (wrap64 (x4 + 1))) else (none))) else (none)) else (some x3)
def laws_toItemS.f (k : Nat) (l0 : List (S118)) : Option ((List (S52))) := if 0 ≤ (l0.length : Int) then (if ((l0.length : Int) : Int).toNat ≤ 11728124029610 then (laws_toItemS.l0 k l0 (List.replicate ((l0.length : Int) : Int).toNat z52) 0) else (none)) else (none)
set_option maxHeartbeats 8000000 in
set_option maxRecDepth 100000 in
theorem laws_toItemS.calls (k : Nat) (A0 : Option Addr) (c0 : Nat) (l0 : List (S118)) (r : List (S52)) (w : World) (hr0 : Kd.C k118 w A0 l0.length l0) (hc0 : l0.length ≤ c0) (h : laws_toItemS.f k l0 = some r) :
  Calls Try.prog 77 #[.slice A0 l0.length c0] w fun e w' => ∃ v0_ : Value, e = .returned (v0_) ∧ Kd.R k52 52 w' w.heap.size (fun _ => True) v0_ r ∧ Below w.heap.size w w' := by
 have hu118 := Try.underlying118
 have hu52 := Try.underlying52
 have HR0 := aa_ hr0
 have HC0 := aa_ hc0
 clear hr0 hc0
 have HB := aa_ (Below.refl w.heap.size w)
 have H : (if 0 ≤ (l0.length : Int) then (if ((l0.length : Int) : Int).toNat ≤ 11728124029610 then (laws_toItemS.l0 k l0 (List.replicate ((l0.length : Int) : Int).toNat z52) 0) else (none)) else (none)) = some r := h
 clear h
 obtain ⟨c2, H⟩ := ifn_ H
 have c2b0 := eq_true c2
 have c2b1 : decide (0 ≤ (l0.length : Int)) = true := decide_eq_true c2
 clear c2
 obtain ⟨c3, H⟩ := ifn_ H
 have c3b0 := eq_true c3
 have c3b1 : decide (((l0.length : Int) : Int).toNat ≤ 11728124029610) = true := decide_eq_true c3
 clear c3
 obtain ⟨y291, hy291⟩ : ∃ y_ : List (S52), y_ = (List.replicate ((l0.length : Int) : Int).toNat z52) := ⟨_, rfl⟩
 replace H : (laws_toItemS.l0 k l0 y291 0) = some r := rh_ hy291 H
 have Ny291 := aa_ hy291
 clear hy291
 have H' := aa_ H
 clear H
 go_enter Try.func77, Try.ntmps77
 go_wp2_with (first | ((with_reducible refine gD_ 7 rfl ?_); refine Kd.R_make k52 _ 52 rfl (N := 7) rfl 36 _ _ rfl (l0.length : Int) rfl rfl Try.underlying36 (.agg #[(.string ⟨#[]⟩), (.bool false)]) 24 info52 rfl (by decide) (by omega) z52 (ok := fun _ => True) (okp := fun _ => True) (k52_mkM _ _ _ z52 ) (fun _ hk => hk) trivial (od_) (Nat.le_trans (Nat.mul_le_mul_right _ (od_ : (l0.length : Int).toNat ≤ 11728124029610)) (by omega)) (Below.refl _ _) (Nat.le_refl _) ?_; intro v292 w4 ho5 hb hg_ hnew_; clear hg_ hnew_; (first | rw [← Ny291.out] at ho5 | (simp only [Int.reduceToNat] at ho5; rw [← Ny291.out] at ho5)); have HO293 := aa_ (Kd.R_lower ho5 bls_); replace HB := hbs_ hb; clear hb ho5))
 go_loopg [4] k (fun kq v4 w' => ∃ (x3_1 : List (S52)) (x4_1 : Int), v4 = .int .i64 x4_1 ∧ Aside0 (laws_toItemS.l0 kq l0 x3_1 x4_1 = some r) ∧ Aside0 (kq ≤ k) ∧ Aside0 (Kd.R k52 52 w' w.heap.size (fun _ => True) v292 x3_1) ∧ Aside0 (Below w.heap.size w w'))
 case atStart => exact ⟨(y291), (0), rf_, H', ⟨Nat.le_refl _⟩, ⟨rr_ HO293⟩, ⟨bl_⟩⟩
 case round =>
  clear H'
  try clear c2
  try clear c2b0
  try clear c2b1
  try clear p2
  try clear c3
  try clear c3b0
  try clear c3b1
  obtain ⟨x3_1, x4_1, rfl, HA, HK1, HO_3, HB⟩ := hrel
  cases gk with
  | zero => exact absurd HA.out (by simp [laws_toItemS.l0])
  | succ k1 =>
   have H := HA.out
   clear HA
   simp only [laws_toItemS.l0] at H
   by_cases c6 : x4_1 < (l0.length : Int)
   ·rw [if_pos c6] at H
    have c6b0 : decide (x4_1 < (l0.length : Int)) = true := decide_eq_true c6
    clear c6
    obtain ⟨c7b0, H⟩ := ifd_ H
    obtain ⟨⟨t295, t296⟩, A8, H⟩ := bindE_ H
    replace H : (if x4_1 < (x3_1.length : Int) then (laws_toItemS.l0 k1 l0 (x3_1.set (x4_1 : Int).toNat (⟨t295, t296⟩ : S52)) (wrap64 (x4_1 + 1))) else (none)) = some r := H
    obtain ⟨c9b0, H⟩ := ifd_ H
    obtain ⟨y297, hy297⟩ : ∃ y_ : List (S52), y_ = (x3_1.set (x4_1 : Int).toNat (⟨t295, t296⟩ : S52)) := ⟨_, rfl⟩
    replace H : (laws_toItemS.l0 k1 l0 y297 (wrap64 (x4_1 + 1))) = some r := rh_ hy297 H
    have Ny297 := aa_ hy297
    clear hy297
    have H' := aa_ H
    clear H
    have p294 : 0 ≤ (x4_1 : Int) := od_
    have q294 : x4_1 < (l0.length : Int) := od_
    obtain ⟨ad294, e294, hx294_0, hx294_1⟩ := at_T118 (Kd.C_below HR0.out HB.out) x4_1 p294 q294
    cases e294
    replace p294 := eq_true p294
    replace q294 := eq_true q294
    go_wp2_with (first | ((with_reducible refine gC_ 89 rfl ?_); refine goesC_ (some 20) Try.func89 #[.agg #[.string ((rd_T118 l0 x4_1).f0), .bool ((rd_T118 l0 x4_1).f1)]] ?_; (with_reducible refine (laws_toItem.calls ((rd_T118 l0 x4_1).f0) ((rd_T118 l0 x4_1).f1) t295 t296 _ A8.out).mono ?_); rintro e w11 ⟨rfl, hb⟩; refine ⟨_, rfl, ?_⟩; replace HO_3 := hob_ HO_3 hb; replace HB := hbs_ hb; clear hb; have p10 : 0 ≤ (x4_1 : Int) := od_; have q10 : (x4_1 : Int) < ((x3_1.length : Int) : Int) := od_; obtain ⟨go10, co10, eo10, gb10, gl10, cl10, HG10⟩ := Kd.R_form HO_3.out (by omega); (first | cases eo10 | (injection eo10 with ea_ en_ ec_; (first | subst ea_ | (injection ea_ with ea_; subst ea_)); subst ec_; clear en_)); have GB10 := aa_ gb10; have GG10 := aa_ HG10; clear gb10 gl10 HG10; obtain ⟨ce10, hcl10, hM10, hcc10, hfr10⟩ := Kd.R_elem HO_3.out z52 (x4_1 : Int) p10 q10; obtain rfl := k52_openM hM10; have hx10_0 : w11.cell? ⟨go10, (x4_1 : Int).toNat * 2, none⟩ = some (.string ((rd_T52 x3_1 x4_1).f0)) := hcc10 0 _ rfl; have hx10_1 : w11.cell? ⟨go10, (x4_1 : Int).toNat * 2 + 1, none⟩ = some (.bool ((rd_T52 x3_1 x4_1).f1)) := hcc10 1 _ rfl; have hf10_0 : w11.frozen? ⟨go10, (x4_1 : Int).toNat * 2, none⟩ = false := hfr10 0; have hf10_1 : w11.frozen? ⟨go10, (x4_1 : Int).toNat * 2 + 1, none⟩ = false := hfr10 1; clear hcl10 hcc10 hfr10 hM10; replace p10 := eq_true p10; replace q10 := eq_true q10; have HX12 := aa_ (show Kd.R k52 52 w11 w.heap.size (fun _ => True) (.slice (some ⟨go10, 0, none⟩) x3_1.length co10) x3_1 from (rr_ HO_3)); obtain ⟨ce12, hcl12, hM12, hcc12, hfr12⟩ := Kd.R_elem HX12.out z52 (x4_1 : Int) (od_) (by have h_ : (x4_1 : Int) < ((x3_1.length : Int) : Int) := od_; first | exact h_ | (have e_ := (Kd.R_reads' HO_3.out).1; omega) | simpa using h_); obtain rfl := k52_openM hM12; have HP12 := Kd.R_seg HX12.out (x4_1 : Int) (od_) (by have h_ : (x4_1 : Int) < ((x3_1.length : Int) : Int) := od_; first | exact h_ | (have e_ := (Kd.R_reads' HO_3.out).1; omega) | simpa using h_) (seg := [.string t295, .bool t296]) (j := 0) hcl12 hcc12 (show 2 ≤ 2 from by decide) (x' := (⟨t295, t296⟩ : S52)) (k52_mkM _ _ _ (⟨t295, t296⟩ : S52) ) (fun _ hk => hk); have hx12_0 := hcc12 0 _ rfl; (try simp only [show (k52).sz = 2 from rfl, Nat.mul_one, Nat.add_zero] at hx12_0); have hf12_0 := hfr12 0; (try simp only [show (k52).sz = 2 from rfl, Nat.mul_one, Nat.add_zero] at hf12_0); have hx12_1 := hcc12 1 _ rfl; (try simp only [show (k52).sz = 2 from rfl, Nat.mul_one, Nat.add_zero] at hx12_1); have hf12_1 := hfr12 1; (try simp only [show (k52).sz = 2 from rfl, Nat.mul_one, Nat.add_zero] at hf12_1); clear hcl12 hcc12 hfr12 hM12) | ((with_reducible refine gate_store (t := 52) (p := 21) rfl ?_); refine store_event (t := 52) (p := 21) (v := ?vo_w13) (w1 := ((w11.setCell ⟨go10, (x4_1 : Int).toNat * 2, none⟩ (.string t295)).setCell ⟨go10, (x4_1 : Int).toNat * 2 + 1, none⟩ (.bool t296))) ?hg ?ho ?hn ?hr ?_; (case ho => rfl); (case hg => rfl); (case hn => rfl); (case hr => first | (go_simp; done) | (go_simp; rfl)); intro w13 hw; have hg : w11.grownBy w13 (some go10) := (by rw [hw]; exact HP12.2); have hp_ : Kd.R k52 52 w13 w.heap.size (fun _ => True) (.slice (some ⟨go10, 0, none⟩) x3_1.length co10) y297 := (by rw [hw, Ny297.out]; exact HP12.1); clear HP12; replace HO_3 := aa_ (hp_); replace HB := aa_ ((by rw [hw]; exact below_set (below_set (HB.out) GB10.out) GB10.out : Below w.heap.size w w13)); clear hg hw hp_))
    go_roundg k1
    case measure => have := HK1.out; omega
    case rel => exact ⟨(y297), (wrap64 (x4_1 + 1)), rf_, H', ⟨by have := HK1.out; omega⟩, ⟨rr_ HO_3⟩, ⟨bl_⟩⟩
   ·rw [if_neg c6] at H
    have c6b0 : decide (x4_1 < (l0.length : Int)) = false := decide_eq_false c6
    clear c6
    obtain rfl := Option.some.inj H
    go_wp2
    go_ret
    exact ⟨_, eq_, by (with_reducible repeat (first | apply Kd.R_alloc | apply Kd.R_drewN | apply Kd.R_drew)); exact HO_3.out, bl_⟩
def laws_toShelf.f (k : Nat) (a0_0 : Int) (l0_1 : List (S118)) : Option (Int × (List (S52))) := (laws_toItemS.f k l0_1).bind fun t301 => (some (a0_0, t301))
set_option maxHeartbeats 8000000 in
set_option maxRecDepth 100000 in
theorem laws_toShelf.calls (k : Nat) (a0_0 : Int) (A0_1 : Option Addr) (c0_1 : Nat) (l0_1 : List (S118)) (r1 : Int) (r2 : List (S52)) (w : World) (hr0_1 : Kd.C k118 w A0_1 l0_1.length l0_1) (hc0_1 : l0_1.length ≤ c0_1) (h : laws_toShelf.f k a0_0 l0_1 = some (r1, r2)) :
  Calls Try.prog 61 #[.agg #[.int .i64 a0_0, .slice A0_1 l0_1.length c0_1]] w fun e w' => ∃ v1_ : Value, e = .returned (.agg #[.int .i64 r1, v1_]) ∧ Kd.R k52 52 w' w.heap.size (fun _ => True) v1_ r2 ∧ Below w.heap.size w w' := by
 have hu89 := Try.underlying89
 have hu61 := Try.underlying61
 have HR0_1 := aa_ hr0_1
 have HC0_1 := aa_ hc0_1
 clear hr0_1 hc0_1
 have HB := aa_ (Below.refl w.heap.size w)
 have H : ((laws_toItemS.f k l0_1).bind fun t301 => (some (a0_0, t301))) = some (r1, r2) := h
 clear h
 obtain ⟨t301, A2, H⟩ := bindE_ H
 simp only [Option.some.injEq, Prod.mk.injEq] at H
 obtain ⟨rfl, rfl⟩ := H
 go_enter Try.func61, Try.ntmps61
 go_wp2_with (first | ((with_reducible refine gD_ 1 rfl ?_); refine bx_ (N := 1) (cs := #[.int .i64 a0_0, .slice A0_1 l0_1.length c0_1]) (t := 89) ?_; intro gb298 hg w3 hbox hb; have BK298 := aa_ (hbox); have GW298 := gs_ hg; have GE298 := gs_ hg; replace HB := hbs_ hb; clear hb hbox hg) | ((with_reducible refine gD_ 2 rfl ?_); refine bx_ (N := 2) (cs := #[.int .i64 0, .slice none 0 0]) (t := 61) ?_; intro gb299 hg w4 hbox hb; have BK299 := aa_ (hbox); have GW299 := gs_ hg; have GE299 := gs_ hg; replace HB := hbs_ hb; have NB298_299 := nl_ hg BK298; have NB299_298 := nr_ hg BK298; replace BK298 := bkb_ BK298 hb; clear hb hbox hg) | ((with_reducible refine gD_ 3 rfl ?_); refine bx_ (N := 3) (cs := #[.int .i64 0, .slice none 0 0]) (t := 61) ?_; intro gb300 hg w5 hbox hb; have BK300 := aa_ (hbox); have GW300 := gs_ hg; have GE300 := gs_ hg; replace HB := hbs_ hb; have NB298_300 := nl_ hg BK298; have NB300_298 := nr_ hg BK298; replace BK298 := bkb_ BK298 hb; have NB299_300 := nl_ hg BK299; have NB300_299 := nr_ hg BK299; replace BK299 := bkb_ BK299 hb; clear hb hbox hg; have hnb6 := NB298_299.out; have hnc6 := NB299_298.out; have hnb7 := NB298_300.out; have hnc7 := NB300_298.out; obtain ⟨hcz8, hfz8⟩ := bcf_ BK298; have hnb9 := NB300_299.out; have hnc9 := NB299_300.out; obtain ⟨hcz10, hfz10⟩ := bcf_ BK300) | ((with_reducible refine gC_ 77 rfl ?_); refine goesC_ (some 9) Try.func77 #[.slice A0_1 l0_1.length c0_1] ?_; (with_reducible refine (laws_toItemS.calls k _ _ l0_1 t301 _ ?side1 ?side2 A2.out).mono ?_); (case side1 => exact Kd.C_below HR0_1.out bl_); (case side2 => exact HC0_1.out); rintro e w11 ⟨v302, rfl, ho0, hb⟩; refine ⟨_, rfl, ?_⟩; have HO303 := aa_ (Kd.R_lower ho0 bls_); replace BK298 := aa_ (blk_below (g := gb298) (o := .cells #[.int .i64 a0_0, .slice A0_1 l0_1.length c0_1] 89 (0, 0)) (bk_ BK298) hb); replace BK299 := aa_ (blk_below (g := gb299) (o := .cells #[.int .i64 0, .slice none 0 0] 61 (0, 0)) (bk_ BK299) hb); replace BK300 := aa_ (blk_below (g := gb300) (o := .cells #[.int .i64 a0_0, .slice none 0 0] 61 (0, 0)) (bk_ BK300) hb); replace HB := hbs_ hb; (try clear hb ho0); obtain ⟨Ao12, co12, eo12⟩ := Kd.R_slice HO303.out; subst eo12; obtain ⟨hcz13, hfz13⟩ := bcf_ BK300; obtain ⟨hcz14, hfz14⟩ := bcf_ BK299))
 refine bodyPost_ret (results_cell_row rfl _ _ gb299 61 #[.int .i64 a0_0, .slice Ao12 t301.length co12] (0, 0) _ rfl (bk_ BK299) Try.underlying61 rfl (by kernel_rfl)) rfl ?_
 exact ⟨_, eq_, by (with_reducible repeat (first | apply Kd.R_alloc | apply Kd.R_drewN | apply Kd.R_drew)); exact Kd.R_mono (fr2_ (Kd.R_far (p := ⟨gb300, 1, none⟩) (Kd.R_types (Kd.R_types HO303.out BK300.out (by decide)) BK299.out (by decide)) (fun _ hk => hk.1.2) (.slice Ao12 t301.length co12)) (fun _ hk => hk.2)) (fun _ hk => trivial), bl_⟩
def laws_toShelfS.l0 : Nat → List (S89) → List (S61) → Int → Option ((List (S61)))
 | 0, _, _, _ => none
 | k + 1, x0, x3, x4 => if x4 < (x0.length : Int) then (if 0 ≤ x4 then ((laws_toShelf.f k ((rd_T89 x0 x4).f0) ((rd_T89 x0 x4).f1)).bind fun bt308 => (if x4 < (x3.length : Int) then (laws_toShelfS.l0 k x0 (x3.set (x4 : Int).toNat (⟨bt308.1, bt308.2⟩ : S61)) (wrap64 (x4 + 1))) else (none))) else (none)) else (some x3)
def laws_toShelfS.f (k : Nat) (l0 : List (S89)) : Option ((List (S61))) := if 0 ≤ (l0.length : Int) then (if ((l0.length : Int) : Int).toNat ≤ 8796093022208 then (laws_toShelfS.l0 k l0 (List.replicate ((l0.length : Int) : Int).toNat z61) 0) else (none)) else (none)
set_option maxHeartbeats 8000000 in
set_option maxRecDepth 100000 in
theorem laws_toShelfS.calls (k : Nat) (A0 : Option Addr) (c0 : Nat) (l0 : List (S89)) (r : List (S61)) (w : World) (hr0 : Kd.C k89 w A0 l0.length l0) (hc0 : l0.length ≤ c0) (h : laws_toShelfS.f k l0 = some r) :
  Calls Try.prog 49 #[.slice A0 l0.length c0] w fun e w' => ∃ v0_ : Value, e = .returned (v0_) ∧ Kd.S k61 61 w' w.heap.size (fun _ => True) v0_ r ∧ Below w.heap.size w w' := by
 have hu89 := Try.underlying89
 have hu61 := Try.underlying61
 have HR0 := aa_ hr0
 have HC0 := aa_ hc0
 clear hr0 hc0
 have HB := aa_ (Below.refl w.heap.size w)
 have H : (if 0 ≤ (l0.length : Int) then (if ((l0.length : Int) : Int).toNat ≤ 8796093022208 then (laws_toShelfS.l0 k l0 (List.replicate ((l0.length : Int) : Int).toNat z61) 0) else (none)) else (none)) = some r := h
 clear h
 obtain ⟨c2, H⟩ := ifn_ H
 have c2b0 := eq_true c2
 have c2b1 : decide (0 ≤ (l0.length : Int)) = true := decide_eq_true c2
 clear c2
 obtain ⟨c3, H⟩ := ifn_ H
 have c3b0 := eq_true c3
 have c3b1 : decide (((l0.length : Int) : Int).toNat ≤ 8796093022208) = true := decide_eq_true c3
 clear c3
 obtain ⟨y304, hy304⟩ : ∃ y_ : List (S61), y_ = (List.replicate ((l0.length : Int) : Int).toNat z61) := ⟨_, rfl⟩
 replace H : (laws_toShelfS.l0 k l0 y304 0) = some r := rh_ hy304 H
 have Ny304 := aa_ hy304
 clear hy304
 have H' := aa_ H
 clear H
 go_enter Try.func49, Try.ntmps49
 go_wp2_with (first | ((with_reducible refine gD_ 7 rfl ?_); refine Kd.S_make k61 _ 61 rfl (N := 7) rfl 40 _ _ rfl (l0.length : Int) rfl rfl Try.underlying40 (.agg #[(.int .i64 0), (.slice none 0 0)]) 32 info61 rfl (by decide) (by omega) z61 (ok := fun _ => True) (okp := fun _ => True) (k61_mkM _ _ _ z61 (Kd.R_nil _ _ _ _ _)) (fun _ hk => hk) trivial (od_) (Nat.le_trans (Nat.mul_le_mul_right _ (od_ : (l0.length : Int).toNat ≤ 8796093022208)) (by omega)) (Below.refl _ _) (Nat.le_refl _) ?_; intro v305 w4 ho5 hb hg_ hnew_; clear hg_ hnew_; (first | rw [← Ny304.out] at ho5 | (simp only [Int.reduceToNat] at ho5; rw [← Ny304.out] at ho5)); have HO306 := aa_ (Kd.S_lower ho5 bls_); replace HB := hbs_ hb; clear hb ho5))
 go_loopg [4] k (fun kq v4 w' => ∃ (x3_1 : List (S61)) (x4_1 : Int), v4 = .int .i64 x4_1 ∧ Aside0 (laws_toShelfS.l0 kq l0 x3_1 x4_1 = some r) ∧ Aside0 (kq ≤ k) ∧ Aside0 (Kd.S k61 61 w' w.heap.size (fun _ => True) v305 x3_1) ∧ Aside0 (Below w.heap.size w w'))
 case atStart => exact ⟨(y304), (0), rf_, H', ⟨Nat.le_refl _⟩, ⟨rs_ HO306⟩, ⟨bl_⟩⟩
 case round =>
  clear H'
  try clear c2
  try clear c2b0
  try clear c2b1
  try clear p2
  try clear c3
  try clear c3b0
  try clear c3b1
  try clear c4
  obtain ⟨x3_1, x4_1, rfl, HA, HK1, HO_3, HB⟩ := hrel
  cases gk with
  | zero => exact absurd HA.out (by simp [laws_toShelfS.l0])
  | succ k1 =>
   have H := HA.out
   clear HA
   simp only [laws_toShelfS.l0] at H
   by_cases c6 : x4_1 < (l0.length : Int)
   ·rw [if_pos c6] at H
    have c6b0 : decide (x4_1 < (l0.length : Int)) = true := decide_eq_true c6
    clear c6
    obtain ⟨c7b0, H⟩ := ifd_ H
    obtain ⟨⟨t308, t309⟩, A8, H⟩ := bindE_ H
    replace H : (if x4_1 < (x3_1.length : Int) then (laws_toShelfS.l0 k1 l0 (x3_1.set (x4_1 : Int).toNat (⟨t308, t309⟩ : S61)) (wrap64 (x4_1 + 1))) else (none)) = some r := H
    obtain ⟨c9b0, H⟩ := ifd_ H
    obtain ⟨y312, hy312⟩ : ∃ y_ : List (S61), y_ = (x3_1.set (x4_1 : Int).toNat (⟨t308, t309⟩ : S61)) := ⟨_, rfl⟩
    replace H : (laws_toShelfS.l0 k1 l0 y312 (wrap64 (x4_1 + 1))) = some r := rh_ hy312 H
    have Ny312 := aa_ hy312
    clear hy312
    have H' := aa_ H
    clear H
    have p307 : 0 ≤ (x4_1 : Int) := od_
    have q307 : x4_1 < (l0.length : Int) := od_
    obtain ⟨ad307, A307_1, c307_1, e307, hx307_0, hx307_1, hl307_1, hi307_1⟩ := at_T89 HR0.out x4_1 p307 q307
    cases e307
    replace hx307_0 := cb_ HB hx307_0
    replace hx307_1 := cb_ HB hx307_1
    have HR307_1 := aa_ hi307_1
    have HC307_1 := aa_ hl307_1
    clear hi307_1 hl307_1
    replace p307 := eq_true p307
    replace q307 := eq_true q307
    go_wp2_with (first | ((with_reducible refine gC_ 61 rfl ?_); refine goesC_ (some 20) Try.func61 #[.agg #[.int .i64 ((rd_T89 l0 x4_1).f0), .slice A307_1 ((rd_T89 l0 x4_1).f1).length c307_1]] ?_; (with_reducible refine (laws_toShelf.calls k1 ((rd_T89 l0 x4_1).f0) _ _ ((rd_T89 l0 x4_1).f1) t308 t309 _ ?side1 ?side2 A8.out).mono ?_); (case side1 => repeat (first | exact (Kd.C_below HR307_1.out HB.out) | (with_reducible refine Kd.C_alloc ?_ _) | (with_reducible refine Kd.C_drewN ?_ _) | (with_reducible refine Kd.C_drew ?_))); (case side2 => exact HC307_1.out); rintro e w11 ⟨v310, rfl, ho0, hb⟩; refine ⟨_, rfl, ?_⟩; replace HO_3 := aa_ (Kd.S_elder' (rs_ HO_3) (Kd.R_base ho0) hb); have HO311 := aa_ (Kd.R_lower ho0 bls_); replace HB := hbs_ hb; (try clear hb ho0); have p10 : 0 ≤ (x4_1 : Int) := od_; have q10 : (x4_1 : Int) < ((x3_1.length : Int) : Int) := od_; obtain ⟨go10, co10, eo10, gb10, gl10, cl10, HG10⟩ := Kd.S_form HO_3.out (by omega); (first | cases eo10 | (injection eo10 with ea_ en_ ec_; (first | subst ea_ | (injection ea_ with ea_; subst ea_)); subst ec_; clear en_)); have GB10 := aa_ gb10; have GG10 := aa_ HG10; clear gb10 gl10 HG10; obtain ⟨_, ce10, hcl10, hM10, hcc10, hfr10, _, _⟩ := Kd.S_elem HO_3.out z61 (x4_1 : Int) p10 q10; obtain ⟨ve10_1, rfl, ge10_1⟩ := k61_openM hM10; have hx10_0 : w11.cell? ⟨go10, (x4_1 : Int).toNat * 2, none⟩ = some (.int .i64 ((rd_T61 x3_1 x4_1).f0)) := hcc10 0 _ rfl; have hx10_1 : w11.cell? ⟨go10, (x4_1 : Int).toNat * 2 + 1, none⟩ = some (ve10_1) := hcc10 1 _ rfl; have hf10_0 : w11.frozen? ⟨go10, (x4_1 : Int).toNat * 2, none⟩ = false := hfr10 0; have hf10_1 : w11.frozen? ⟨go10, (x4_1 : Int).toNat * 2 + 1, none⟩ = false := hfr10 1; clear hcl10 hcc10 hfr10 hM10; replace p10 := eq_true p10; replace q10 := eq_true q10; have n_ := aa_ (Kd.S_mono (ok' := (fun k_ => some k_ ≠ (v310 : Value).ownBlock)) HO_3.out (fun k_ hk => hk.2)); clear HO_3; have HO_3 := n_; clear n_; have honeo14 := one_R_ Try.prog HO311.out; have HX12 := aa_ (show Kd.S k61 61 w11 w.heap.size (fun k_ => ((fun _ => True)) k_ ∧ ¬ ((fun k_ => some k_ = (v310 : Value).ownBlock)) k_) (.slice (some ⟨go10, 0, none⟩) x3_1.length co10) x3_1 from (by (with_reducible repeat (first | apply Kd.S_alloc | apply Kd.S_drewN | apply Kd.S_drew)); exact Kd.S_mono HO_3.out (fun k_ hk => ⟨trivial, fun e_ => hk e_⟩))); obtain ⟨oki12, ce12, hcl12, hM12, hcc12, hfr12, hoki12, hH12⟩ := Kd.S_elem HX12.out z61 (x4_1 : Int) (od_) (by have h_ : (x4_1 : Int) < ((x3_1.length : Int) : Int) := od_; first | exact h_ | (have e_ := (Kd.S_reads' HO_3.out).1; omega) | simpa using h_); obtain ⟨ve12_1, rfl, ge12_1⟩ := k61_openM hM12; have HP12 := Kd.S_seg hH12 (od_) (by have h_ : (x4_1 : Int) < ((x3_1.length : Int) : Int) := od_; first | exact h_ | (have e_ := (Kd.S_reads' HO_3.out).1; omega) | simpa using h_) (seg := [.int .i64 t308, v310]) (j := 0) (show 2 ≤ 2 from by decide) (x' := (⟨t308, t309⟩ : S61)) (k61_mkM _ _ _ (⟨t308, t309⟩ : S61) (Kd.R_mono (Kd.R_tight rfl (Kd.R_mono (ok' := fun k_ => ((fun _ => True)) k_ ∧ k_ ≠ go10) (Kd.R_apart' (HO311.out) (Kd.S_typed HO_3.out) (by decide)) (fun k_ hk => ⟨trivial, fun e_ => (hk.2) (by rw [e_]; rfl)⟩))) (fun _ h_ => Or.inr (h_)))) (fun _ hk => hk) (fun k_ hk_ => ((Kd.R_mono (ok' := fun k_ => ((fun _ => True)) k_ ∧ k_ ≠ go10) (Kd.R_apart' (HO311.out) (Kd.S_typed HO_3.out) (by decide)) (fun k_ hk => ⟨trivial, fun e_ => (hk.2) (by rw [e_]; rfl)⟩))).1 k_ hk_.symm); have hx12_0 := hcc12 0 _ rfl; (try simp only [show (k61).sz = 2 from rfl, Nat.mul_one, Nat.add_zero] at hx12_0); have hf12_0 := hfr12 0; (try simp only [show (k61).sz = 2 from rfl, Nat.mul_one, Nat.add_zero] at hf12_0); have hx12_1 := hcc12 1 _ rfl; (try simp only [show (k61).sz = 2 from rfl, Nat.mul_one, Nat.add_zero] at hx12_1); have hf12_1 := hfr12 1; (try simp only [show (k61).sz = 2 from rfl, Nat.mul_one, Nat.add_zero] at hf12_1); clear hcl12 hcc12 hfr12 hM12 hoki12 hH12) | ((with_reducible refine gate_store (t := 61) (p := 21) rfl ?_); refine store_event (t := 61) (p := 21) (v := ?vo_w13) (w1 := ((w11.setCell ⟨go10, (x4_1 : Int).toNat * 2, none⟩ (.int .i64 t308)).setCell ⟨go10, (x4_1 : Int).toNat * 2 + 1, none⟩ (v310))) ?hg ?ho ?hn ?hr ?_; (case ho => rfl); (case hg => rfl); (case hn => rfl); (case hr => first | (go_simp; done) | (go_simp; rfl)); intro w13 hw; have hg : w11.grownBy w13 (some go10) := (by rw [hw]; exact HP12.2); have hp_ : Kd.S k61 61 w13 w.heap.size (fun _ => True) (.slice (some ⟨go10, 0, none⟩) x3_1.length co10) y312 := (by rw [hw, Ny312.out]; exact HP12.1); clear HP12; replace HO_3 := aa_ (hp_); replace HB := aa_ ((by rw [hw]; exact below_set (below_set (HB.out) GB10.out) GB10.out : Below w.heap.size w w13)); clear HO311; clear hg hw hp_))
    go_roundg k1
    case measure => have := HK1.out; omega
    case rel => exact ⟨(y312), (wrap64 (x4_1 + 1)), rf_, H', ⟨by have := HK1.out; omega⟩, ⟨rs_ HO_3⟩, ⟨bl_⟩⟩
   ·rw [if_neg c6] at H
    have c6b0 : decide (x4_1 < (l0.length : Int)) = false := decide_eq_false c6
    clear c6
    obtain rfl := Option.some.inj H
    go_wp2
    go_ret
    exact ⟨_, eq_, by (with_reducible repeat (first | apply Kd.S_alloc | apply Kd.S_drewN | apply Kd.S_drew)); exact HO_3.out, bl_⟩
def laws_toPeer.f (k : Nat) (a0_0 : Int) (a0_1 : Bool) (a0_2 : Int) (l0_3 : List Int) (l0_4 : List Int) (l0_5 : List (S89)) : Option (Int × Bool × Int × List Int × List Int × (List (S61))) := (laws_toIntS.f k l0_3).bind fun t316 => ((laws_toIntS.f k l0_4).bind fun t319 => ((laws_toShelfS.f k l0_5).bind fun t322 => (some (a0_0, a0_1, a0_2, t316, t319, t322))))
set_option maxHeartbeats 8000000 in
set_option maxRecDepth 100000 in
theorem laws_toPeer.calls (k : Nat) (a0_0 : Int) (a0_1 : Bool) (a0_2 : Int) (A0_3 : Option Addr) (c0_3 : Nat) (l0_3 : List Int) (A0_4 : Option Addr) (c0_4 : Nat) (l0_4 : List Int) (A0_5 : Option Addr) (c0_5 : Nat) (l0_5 : List (S89)) (r1 : Int) (r2 : Bool) (r3 : Int) (r4 : List Int) (r5 : List Int) (r6 : List (S61)) (w : World) (hr0_3 : Kd.C (Kd.int .i64) w A0_3 l0_3.length l0_3) (hc0_3 : l0_3.length ≤ c0_3) (hr0_4 : Kd.C (Kd.int .i64) w A0_4 l0_4.length l0_4) (hc0_4 : l0_4.length ≤ c0_4) (hr0_5 : Kd.C k89 w A0_5 l0_5.length l0_5) (hc0_5 : l0_5.length ≤ c0_5) (h : laws_toPeer.f k a0_0 a0_1 a0_2 l0_3 l0_4 l0_5 = some (r1, r2, r3, r4, r5, r6)) :
  Calls Try.prog 34 #[.agg #[.int .i64 a0_0, .bool a0_1, .int .i64 a0_2, .slice A0_3 l0_3.length c0_3, .slice A0_4 l0_4.length c0_4, .slice A0_5 l0_5.length c0_5]] w fun e w' => ∃ v3_ v4_ v5_ : Value, e = .returned (.agg #[.int .i64 r1, .bool r2, .int .i64 r3, v3_, v4_, v5_]) ∧ Kd.R (Kd.int .i64) 3 w' w.heap.size (fun k_ => some k_ ≠ (v4_ : Value).ownBlock) v3_ r4 ∧ Kd.R (Kd.int .i64) 3 w' w.heap.size (fun k_ => some k_ ≠ (v3_ : Value).ownBlock) v4_ r5 ∧ Kd.S k61 61 w' w.heap.size (fun _ => True) v5_ r6 ∧ Below w.heap.size w w' := by
 have hu57 := Try.underlying57
 have hu42 := Try.underlying42
 have HR0_3 := aa_ hr0_3
 have HC0_3 := aa_ hc0_3
 clear hr0_3 hc0_3
 have HR0_4 := aa_ hr0_4
 have HC0_4 := aa_ hc0_4
 clear hr0_4 hc0_4
 have HR0_5 := aa_ hr0_5
 have HC0_5 := aa_ hc0_5
 clear hr0_5 hc0_5
 have HB := aa_ (Below.refl w.heap.size w)
 have H : ((laws_toIntS.f k l0_3).bind fun t316 => ((laws_toIntS.f k l0_4).bind fun t319 => ((laws_toShelfS.f k l0_5).bind fun t322 => (some (a0_0, a0_1, a0_2, t316, t319, t322))))) = some (r1, r2, r3, r4, r5, r6) := h
 clear h
 obtain ⟨t316, A2, H⟩ := bindE_ H
 obtain ⟨t319, A3, H⟩ := bindE_ H
 obtain ⟨t322, A4, H⟩ := bindE_ H
 simp only [Option.some.injEq, Prod.mk.injEq] at H
 obtain ⟨rfl, rfl, rfl, rfl, rfl, rfl⟩ := H
 go_enter Try.func34, Try.ntmps34
 go_wp2_with (first | ((with_reducible refine gD_ 1 rfl ?_); refine bx_ (N := 1) (cs := #[.int .i64 a0_0, .bool a0_1, .int .i64 a0_2, .slice A0_3 l0_3.length c0_3, .slice A0_4 l0_4.length c0_4, .slice A0_5 l0_5.length c0_5]) (t := 57) ?_; intro gb313 hg w5 hbox hb; have BK313 := aa_ (hbox); have GW313 := gs_ hg; have GE313 := gs_ hg; replace HB := hbs_ hb; clear hb hbox hg) | ((with_reducible refine gD_ 2 rfl ?_); refine bx_ (N := 2) (cs := #[.int .i64 0, .bool false, .int .i64 0, .slice none 0 0, .slice none 0 0, .slice none 0 0]) (t := 42) ?_; intro gb314 hg w6 hbox hb; have BK314 := aa_ (hbox); have GW314 := gs_ hg; have GE314 := gs_ hg; replace HB := hbs_ hb; have NB313_314 := nl_ hg BK313; have NB314_313 := nr_ hg BK313; replace BK313 := bkb_ BK313 hb; clear hb hbox hg) | ((with_reducible refine gD_ 3 rfl ?_); refine bx_ (N := 3) (cs := #[.int .i64 0, .bool false, .int .i64 0, .slice none 0 0, .slice none 0 0, .slice none 0 0]) (t := 42) ?_; intro gb315 hg w7 hbox hb; have BK315 := aa_ (hbox); have GW315 := gs_ hg; have GE315 := gs_ hg; replace HB := hbs_ hb; have NB313_315 := nl_ hg BK313; have NB315_313 := nr_ hg BK313; replace BK313 := bkb_ BK313 hb; have NB314_315 := nl_ hg BK314; have NB315_314 := nr_ hg BK314; replace BK314 := bkb_ BK314 hb; clear hb hbox hg; have hnb8 := NB313_314.out; have hnc8 := NB314_313.out; have hnb9 := NB313_315.out; have hnc9 := NB315_313.out; obtain ⟨hcz10, hfz10⟩ := bcf_ BK313; have hnb11 := NB315_314.out; have hnc11 := NB314_315.out; obtain ⟨hcz12, hfz12⟩ := bcf_ BK315) | ((with_reducible refine gC_ 48 rfl ?_); refine goesC_ (some 15) Try.func48 #[.slice A0_3 l0_3.length c0_3] ?_; (with_reducible refine (laws_toIntS.calls k _ _ l0_3 t316 _ ?side1 ?side2 A2.out).mono ?_); (case side1 => exact Kd.C_below HR0_3.out bl_); (case side2 => exact HC0_3.out); rintro e w13 ⟨v317, rfl, ho0, hb⟩; refine ⟨_, rfl, ?_⟩; have HO318 := aa_ (Kd.R_lower ho0 bls_); replace BK313 := aa_ (blk_below (g := gb313) (o := .cells #[.int .i64 a0_0, .bool a0_1, .int .i64 a0_2, .slice A0_3 l0_3.length c0_3, .slice A0_4 l0_4.length c0_4, .slice A0_5 l0_5.length c0_5] 57 (0, 0)) (bk_ BK313) hb); replace BK314 := aa_ (blk_below (g := gb314) (o := .cells #[.int .i64 0, .bool false, .int .i64 0, .slice none 0 0, .slice none 0 0, .slice none 0 0] 42 (0, 0)) (bk_ BK314) hb); replace BK315 := aa_ (blk_below (g := gb315) (o := .cells #[.int .i64 a0_0, .bool a0_1, .int .i64 a0_2, .slice none 0 0, .slice none 0 0, .slice none 0 0] 42 (0, 0)) (bk_ BK315) hb); replace HB := hbs_ hb; (try clear hb ho0); obtain ⟨Ao14, co14, eo14⟩ := Kd.R_slice HO318.out; subst eo14; obtain ⟨hcz15, hfz15⟩ := bcf_ BK315; obtain ⟨hcz16, hfz16⟩ := bcf_ BK313) | ((with_reducible refine gC_ 48 rfl ?_); refine goesC_ (some 19) Try.func48 #[.slice A0_4 l0_4.length c0_4] ?_; (with_reducible refine (laws_toIntS.calls k _ _ l0_4 t319 _ ?side1 ?side2 A3.out).mono ?_); (case side1 => exact Kd.C_below HR0_4.out bl_); (case side2 => exact HC0_4.out); rintro e w17 ⟨v320, rfl, ho0, hb⟩; refine ⟨_, rfl, ?_⟩; have HO321 := aa_ (Kd.R_lower (Kd.R_new' ho0 (Kd.R_lt (by (with_reducible repeat (first | apply Kd.R_alloc | apply Kd.R_drewN | apply Kd.R_drew)); exact (Kd.R_mono (Kd.R_far (p := ⟨gb315, 3, none⟩) (Kd.R_types HO318.out BK315.out (by decide)) (fun _ hk => hk.2) (.slice Ao14 t316.length co14)) (fun _ h_ => h_.1))))) bls_); replace HO318 := aa_ (Kd.R_elder' (by (with_reducible repeat (first | apply Kd.R_alloc | apply Kd.R_drewN | apply Kd.R_drew)); exact (Kd.R_mono (Kd.R_far (p := ⟨gb315, 3, none⟩) (Kd.R_types HO318.out BK315.out (by decide)) (fun _ hk => hk.2) (.slice Ao14 t316.length co14)) (fun _ h_ => h_.1))) (Kd.R_base ho0) hb); replace BK313 := aa_ (blk_below (g := gb313) (o := .cells #[.int .i64 a0_0, .bool a0_1, .int .i64 a0_2, .slice A0_3 l0_3.length c0_3, .slice A0_4 l0_4.length c0_4, .slice A0_5 l0_5.length c0_5] 57 (0, 0)) (bk_ BK313) hb); replace BK314 := aa_ (blk_below (g := gb314) (o := .cells #[.int .i64 0, .bool false, .int .i64 0, .slice none 0 0, .slice none 0 0, .slice none 0 0] 42 (0, 0)) (bk_ BK314) hb); replace BK315 := aa_ (blk_below (g := gb315) (o := .cells #[.int .i64 a0_0, .bool a0_1, .int .i64 a0_2, .slice Ao14 t316.length co14, .slice none 0 0, .slice none 0 0] 42 (0, 0)) (bk_ BK315) hb); replace HB := hbs_ hb; (try clear hb ho0); obtain ⟨Ao18, co18, eo18⟩ := Kd.R_slice HO321.out; subst eo18; obtain ⟨hcz19, hfz19⟩ := bcf_ BK315; obtain ⟨hcz20, hfz20⟩ := bcf_ BK313) | ((with_reducible refine gC_ 49 rfl ?_); refine goesC_ (some 23) Try.func49 #[.slice A0_5 l0_5.length c0_5] ?_; (with_reducible refine (laws_toShelfS.calls k _ _ l0_5 t322 _ ?side1 ?side2 A4.out).mono ?_); (case side1 => exact Kd.C_below HR0_5.out bl_); (case side2 => exact HC0_5.out); rintro e w21 ⟨v323, rfl, ho0, hb⟩; refine ⟨_, rfl, ?_⟩; replace HO318 := aa_ (Kd.R_below (by (with_reducible repeat (first | apply Kd.R_alloc | apply Kd.R_drewN | apply Kd.R_drew)); exact (Kd.R_mono (Kd.R_far (p := ⟨gb315, 4, none⟩) (Kd.R_types HO318.out BK315.out (by decide)) (fun _ hk => hk.2) (.slice Ao18 t319.length co18)) (fun _ h_ => h_.1))) hb); replace HO321 := aa_ (Kd.R_below (by (with_reducible repeat (first | apply Kd.R_alloc | apply Kd.R_drewN | apply Kd.R_drew)); exact (Kd.R_mono (Kd.R_far (p := ⟨gb315, 4, none⟩) (Kd.R_types HO321.out BK315.out (by decide)) (fun _ hk => hk.2) (.slice Ao18 t319.length co18)) (fun _ h_ => h_.1))) hb); have HO324 := aa_ (Kd.S_lower ho0 bls_); replace BK313 := aa_ (blk_below (g := gb313) (o := .cells #[.int .i64 a0_0, .bool a0_1, .int .i64 a0_2, .slice A0_3 l0_3.length c0_3, .slice A0_4 l0_4.length c0_4, .slice A0_5 l0_5.length c0_5] 57 (0, 0)) (bk_ BK313) hb); replace BK314 := aa_ (blk_below (g := gb314) (o := .cells #[.int .i64 0, .bool false, .int .i64 0, .slice none 0 0, .slice none 0 0, .slice none 0 0] 42 (0, 0)) (bk_ BK314) hb); replace BK315 := aa_ (blk_below (g := gb315) (o := .cells #[.int .i64 a0_0, .bool a0_1, .int .i64 a0_2, .slice Ao14 t316.length co14, .slice Ao18 t319.length co18, .slice none 0 0] 42 (0, 0)) (bk_ BK315) hb); replace HB := hbs_ hb; (try clear hb ho0); obtain ⟨Ao22, co22, eo22⟩ := Kd.S_slice HO324.out; subst eo22; obtain ⟨hcz23, hfz23⟩ := bcf_ BK315; obtain ⟨hcz24, hfz24⟩ := bcf_ BK314))
 refine bodyPost_ret (results_cell_row rfl _ _ gb314 42 #[.int .i64 a0_0, .bool a0_1, .int .i64 a0_2, .slice Ao14 t316.length co14, .slice Ao18 t319.length co18, .slice Ao22 t322.length co22] (0, 0) _ rfl (bk_ BK314) Try.underlying42 rfl (by kernel_rfl)) rfl ?_
 exact ⟨_, _, _, eq_, by (with_reducible repeat (first | apply Kd.R_alloc | apply Kd.R_drewN | apply Kd.R_drew)); exact Kd.R_mono (fr6_ (Kd.R_far (p := ⟨gb315, 5, none⟩) (Kd.R_types (Kd.R_types HO318.out BK315.out (by decide)) BK314.out (by decide)) (fun _ hk => hk.1.2) (.slice Ao22 t322.length co22)) (fun _ hk => hk.2)) (fun _ hk => hk.1.1.2), by (with_reducible repeat (first | apply Kd.R_alloc | apply Kd.R_drewN | apply Kd.R_drew)); exact Kd.R_mono (fr6_ (Kd.R_far (p := ⟨gb315, 5, none⟩) (Kd.R_types (Kd.R_types HO321.out BK315.out (by decide)) BK314.out (by decide)) (fun _ hk => hk.1.2) (.slice Ao22 t322.length co22)) (fun _ hk => hk.2)) (fun _ hk => hk.1.1.2), by (with_reducible repeat (first | apply Kd.S_alloc | apply Kd.S_drewN | apply Kd.S_drew)); exact Kd.S_mono (fs6_ (Kd.S_far (p := ⟨gb315, 5, none⟩) (Kd.S_types (Kd.S_types HO324.out BK315.out (by decide)) BK314.out (by decide)) (fun _ hk => hk.1.2) (.slice Ao22 t322.length co22)) (fun _ hk => hk.2)) (fun _ hk => trivial), bl_⟩
def laws_toPeerS.l0 : Nat → List (S57) → List (S42) → Int → Option ((List (S42)))
 | 0, _, _, _ => none
 | k + 1, x0, x3, x4 => if x4 < (x0.length : Int) then (if 0 ≤ x4 then ((laws_toPeer.f k ((rd_T57 x0 x4).f0) ((rd_T57 x0 x4).f1) ((rd_T57 x0 x4).f2) ((rd_T57 x0 x4).f3) ((rd_T57 x0 x4).f4) ((rd_T57 x0 x4).f5)).bind fun bt329 => (if x4 < (x3.length : Int) then (laws_toPeerS.l0 k x0 (x3.set (x4 : Int).toNat (⟨bt329.1, bt329.2.1, bt329.2.2.1, bt329.2.2.2.1, bt329.2.2.2.2.1, bt329.2.2.2.2.2⟩ : S42)) (wrap64 (x4 + 1))) else (none))) else (none)) else (some x3)
def laws_toPeerS.f (k : Nat) (l0 : List (S57)) : Option ((List (S42))) := if 0 ≤ (l0.length : Int) then (if ((l0.length : Int) : Int).toNat ≤ 2932031007402 then (laws_toPeerS.l0 k l0 (List.replicate ((l0.length : Int) : Int).toNat z42) 0) else (none)) else (none)
set_option maxHeartbeats 8000000 in
set_option maxRecDepth 100000 in
theorem laws_toPeerS.calls (k : Nat) (A0 : Option Addr) (c0 : Nat) (l0 : List (S57)) (r : List (S42)) (w : World) (hr0 : Kd.C k57 w A0 l0.length l0) (hc0 : l0.length ≤ c0) (h : laws_toPeerS.f k l0 = some r) :
  Calls Try.prog 19 #[.slice A0 l0.length c0] w fun e w' => ∃ v0_ : Value, e = .returned (v0_) ∧ Kd.R k42 42 w' w.heap.size (fun _ => True) v0_ r ∧ Below w.heap.size w w' := by
 have hu57 := Try.underlying57
 have hu42 := Try.underlying42
 have HR0 := aa_ hr0
 have HC0 := aa_ hc0
 clear hr0 hc0
 have HB := aa_ (Below.refl w.heap.size w)
 have H : (if 0 ≤ (l0.length : Int) then (if ((l0.length : Int) : Int).toNat ≤ 2932031007402 then (laws_toPeerS.l0 k l0 (List.replicate ((l0.length : Int) : Int).toNat z42) 0) else (none)) else (none)) = some r := h
 clear h
 obtain ⟨c2, H⟩ := ifn_ H
 have c2b0 := eq_true c2
 have c2b1 : decide (0 ≤ (l0.length : Int)) = true := decide_eq_true c2
 clear c2
 obtain ⟨c3, H⟩ := ifn_ H
 have c3b0 := eq_true c3
 have c3b1 : decide (((l0.length : Int) : Int).toNat ≤ 2932031007402) = true := decide_eq_true c3
 clear c3
 obtain ⟨y325, hy325⟩ : ∃ y_ : List (S42), y_ = (List.replicate ((l0.length : Int) : Int).toNat z42) := ⟨_, rfl⟩
 replace H : (laws_toPeerS.l0 k l0 y325 0) = some r := rh_ hy325 H
 have Ny325 := aa_ hy325
 clear hy325
 have H' := aa_ H
 clear H
 go_enter Try.func19, Try.ntmps19
 go_wp2_with (first | ((with_reducible refine gD_ 7 rfl ?_); refine Kd.R_make k42 _ 42 rfl (N := 7) rfl 27 _ _ rfl (l0.length : Int) rfl rfl Try.underlying27 (.agg #[(.int .i64 0), (.bool false), (.int .i64 0), (.slice none 0 0), (.slice none 0 0), (.slice none 0 0)]) 96 info42 rfl (by decide) (by omega) z42 (ok := fun _ => True) (okp := fun _ => True) (k42_mkM _ _ _ z42 (Kd.R_nil _ _ _ _ _) (Kd.R_nil _ _ _ _ _) (Kd.R_nil _ _ _ _ _)) (fun _ hk => hk) trivial (od_) (Nat.le_trans (Nat.mul_le_mul_right _ (od_ : (l0.length : Int).toNat ≤ 2932031007402)) (by omega)) (Below.refl _ _) (Nat.le_refl _) ?_; intro v326 w4 ho5 hb hg_ hnew_; clear hg_ hnew_; (first | rw [← Ny325.out] at ho5 | (simp only [Int.reduceToNat] at ho5; rw [← Ny325.out] at ho5)); have HO327 := aa_ (Kd.R_lower ho5 bls_); replace HB := hbs_ hb; clear hb ho5))
 go_loopg [4] k (fun kq v4 w' => ∃ (x3_1 : List (S42)) (x4_1 : Int), v4 = .int .i64 x4_1 ∧ Aside0 (laws_toPeerS.l0 kq l0 x3_1 x4_1 = some r) ∧ Aside0 (kq ≤ k) ∧ Aside0 (Kd.R k42 42 w' w.heap.size (fun _ => True) v326 x3_1) ∧ Aside0 (Below w.heap.size w w'))
 case atStart => exact ⟨(y325), (0), rf_, H', ⟨Nat.le_refl _⟩, ⟨rr_ HO327⟩, ⟨bl_⟩⟩
 case round =>
  clear H'
  try clear c1
  try clear c2
  try clear c2b0
  try clear c2b1
  try clear p2
  try clear c3
  try clear c3b0
  try clear c3b1
  obtain ⟨x3_1, x4_1, rfl, HA, HK1, HO_3, HB⟩ := hrel
  cases gk with
  | zero => exact absurd HA.out (by simp [laws_toPeerS.l0])
  | succ k1 =>
   have H := HA.out
   clear HA
   simp only [laws_toPeerS.l0] at H
   by_cases c6 : x4_1 < (l0.length : Int)
   ·rw [if_pos c6] at H
    have c6b0 : decide (x4_1 < (l0.length : Int)) = true := decide_eq_true c6
    clear c6
    obtain ⟨c7b0, H⟩ := ifd_ H
    obtain ⟨⟨t329, t330, t331, t332, t335, t338⟩, A8, H⟩ := bindE_ H
    replace H : (if x4_1 < (x3_1.length : Int) then (laws_toPeerS.l0 k1 l0 (x3_1.set (x4_1 : Int).toNat (⟨t329, t330, t331, t332, t335, t338⟩ : S42)) (wrap64 (x4_1 + 1))) else (none)) = some r := H
    obtain ⟨c9b0, H⟩ := ifd_ H
    obtain ⟨y341, hy341⟩ : ∃ y_ : List (S42), y_ = (x3_1.set (x4_1 : Int).toNat (⟨t329, t330, t331, t332, t335, t338⟩ : S42)) := ⟨_, rfl⟩
    replace H : (laws_toPeerS.l0 k1 l0 y341 (wrap64 (x4_1 + 1))) = some r := rh_ hy341 H
    have Ny341 := aa_ hy341
    clear hy341
    have H' := aa_ H
    clear H
    have p328 : 0 ≤ (x4_1 : Int) := od_
    have q328 : x4_1 < (l0.length : Int) := od_
    obtain ⟨ad328, A328_3, c328_3, A328_4, c328_4, A328_5, c328_5, e328, hx328_0, hx328_1, hx328_2, hx328_3, hx328_4, hx328_5, hl328_3, hi328_3, hl328_4, hi328_4, hl328_5, hi328_5⟩ := at_T57 HR0.out x4_1 p328 q328
    cases e328
    replace hx328_0 := cb_ HB hx328_0
    replace hx328_1 := cb_ HB hx328_1
    replace hx328_2 := cb_ HB hx328_2
    replace hx328_3 := cb_ HB hx328_3
    replace hx328_4 := cb_ HB hx328_4
    replace hx328_5 := cb_ HB hx328_5
    have HR328_3 := aa_ hi328_3
    have HC328_3 := aa_ hl328_3
    clear hi328_3 hl328_3
    have HR328_4 := aa_ hi328_4
    have HC328_4 := aa_ hl328_4
    clear hi328_4 hl328_4
    have HR328_5 := aa_ hi328_5
    have HC328_5 := aa_ hl328_5
    clear hi328_5 hl328_5
    replace p328 := eq_true p328
    replace q328 := eq_true q328
    go_wp2_with (first | ((with_reducible refine gC_ 34 rfl ?_); refine goesC_ (some 20) Try.func34 #[.agg #[.int .i64 ((rd_T57 l0 x4_1).f0), .bool ((rd_T57 l0 x4_1).f1), .int .i64 ((rd_T57 l0 x4_1).f2), .slice A328_3 ((rd_T57 l0 x4_1).f3).length c328_3, .slice A328_4 ((rd_T57 l0 x4_1).f4).length c328_4, .slice A328_5 ((rd_T57 l0 x4_1).f5).length c328_5]] ?_; (with_reducible refine (laws_toPeer.calls k1 ((rd_T57 l0 x4_1).f0) ((rd_T57 l0 x4_1).f1) ((rd_T57 l0 x4_1).f2) _ _ ((rd_T57 l0 x4_1).f3) _ _ ((rd_T57 l0 x4_1).f4) _ _ ((rd_T57 l0 x4_1).f5) t329 t330 t331 t332 t335 t338 _ ?side1 ?side2 ?side3 ?side4 ?side5 ?side6 A8.out).mono ?_); (case side1 => repeat (first | exact (Kd.C_below HR328_3.out HB.out) | (with_reducible refine Kd.C_alloc ?_ _) | (with_reducible refine Kd.C_drewN ?_ _) | (with_reducible refine Kd.C_drew ?_))); (case side2 => exact HC328_3.out); (case side3 => repeat (first | exact (Kd.C_below HR328_4.out HB.out) | (with_reducible refine Kd.C_alloc ?_ _) | (with_reducible refine Kd.C_drewN ?_ _) | (with_reducible refine Kd.C_drew ?_))); (case side4 => exact HC328_4.out); (case side5 => repeat (first | exact (Kd.C_below HR328_5.out HB.out) | (with_reducible refine Kd.C_alloc ?_ _) | (with_reducible refine Kd.C_drewN ?_ _) | (with_reducible refine Kd.C_drew ?_))); (case side6 => exact HC328_5.out); rintro e w11 ⟨v333, v336, v339, rfl, ho0, ho1, ho2, hb⟩; refine ⟨_, rfl, ?_⟩; replace HO_3 := aa_ (Kd.R_mono (Kd.R_told (Kd.R_told (Kd.R_told (Kd.R_old (rr_ HO_3) hb) (Kd.R_base ho0)) (Kd.R_base ho1)) (Kd.S_base ho2)) (fun _ h_ => h_.1)); have HO334 := aa_ (Kd.R_lower ho0 bls_); have HO337 := aa_ (Kd.R_lower ho1 bls_); have HO340 := aa_ (Kd.S_lower ho2 bls_); replace HB := hbs_ hb; (try clear hb ho0 ho1 ho2); have p10 : 0 ≤ (x4_1 : Int) := od_; have q10 : (x4_1 : Int) < ((x3_1.length : Int) : Int) := od_; obtain ⟨go10, co10, eo10, gb10, gl10, cl10, HG10⟩ := Kd.R_form HO_3.out (by omega); (first | cases eo10 | (injection eo10 with ea_ en_ ec_; (first | subst ea_ | (injection ea_ with ea_; subst ea_)); subst ec_; clear en_)); have GB10 := aa_ gb10; have GG10 := aa_ HG10; clear gb10 gl10 HG10; obtain ⟨ce10, hcl10, hM10, hcc10, hfr10⟩ := Kd.R_elem HO_3.out z42 (x4_1 : Int) p10 q10; obtain ⟨ve10_3, ve10_4, ve10_5, rfl, ge10_3, ge10_4, ge10_5⟩ := k42_openM hM10; have hx10_0 : w11.cell? ⟨go10, (x4_1 : Int).toNat * 6, none⟩ = some (.int .i64 ((rd_T42 x3_1 x4_1).f0)) := hcc10 0 _ rfl; have hx10_1 : w11.cell? ⟨go10, (x4_1 : Int).toNat * 6 + 1, none⟩ = some (.bool ((rd_T42 x3_1 x4_1).f1)) := hcc10 1 _ rfl; have hx10_2 : w11.cell? ⟨go10, (x4_1 : Int).toNat * 6 + 2, none⟩ = some (.int .i64 ((rd_T42 x3_1 x4_1).f2)) := hcc10 2 _ rfl; have hx10_3 : w11.cell? ⟨go10, (x4_1 : Int).toNat * 6 + 3, none⟩ = some (ve10_3) := hcc10 3 _ rfl; have hx10_4 : w11.cell? ⟨go10, (x4_1 : Int).toNat * 6 + 4, none⟩ = some (ve10_4) := hcc10 4 _ rfl; have hx10_5 : w11.cell? ⟨go10, (x4_1 : Int).toNat * 6 + 5, none⟩ = some (ve10_5) := hcc10 5 _ rfl; have hf10_0 : w11.frozen? ⟨go10, (x4_1 : Int).toNat * 6, none⟩ = false := hfr10 0; have hf10_1 : w11.frozen? ⟨go10, (x4_1 : Int).toNat * 6 + 1, none⟩ = false := hfr10 1; have hf10_2 : w11.frozen? ⟨go10, (x4_1 : Int).toNat * 6 + 2, none⟩ = false := hfr10 2; have hf10_3 : w11.frozen? ⟨go10, (x4_1 : Int).toNat * 6 + 3, none⟩ = false := hfr10 3; have hf10_4 : w11.frozen? ⟨go10, (x4_1 : Int).toNat * 6 + 4, none⟩ = false := hfr10 4; have hf10_5 : w11.frozen? ⟨go10, (x4_1 : Int).toNat * 6 + 5, none⟩ = false := hfr10 5; clear hcl10 hcc10 hfr10 hM10; replace p10 := eq_true p10; replace q10 := eq_true q10; have n_ := aa_ (Kd.R_mono (ok' := (fun k_ => some k_ ≠ (v333 : Value).ownBlock ∧ some k_ ≠ (v336 : Value).ownBlock ∧ some k_ ≠ (v339 : Value).ownBlock)) HO_3.out (fun k_ hk => ⟨hk.1.1.2, ⟨hk.1.2, hk.2⟩⟩)); clear HO_3; have HO_3 := n_; clear n_; have honeo14 := one_R_ Try.prog HO334.out; have honeo15 := one_R_ Try.prog HO337.out; have honeo16 := one_S_ Try.prog HO340.out; have HX12 := aa_ (show Kd.R k42 42 w11 w.heap.size (fun _ => True) (.slice (some ⟨go10, 0, none⟩) x3_1.length co10) x3_1 from (by (with_reducible repeat (first | apply Kd.R_alloc | apply Kd.R_drewN | apply Kd.R_drew)); exact Kd.R_mono HO_3.out (fun _ hk => trivial))); obtain ⟨ce12, hcl12, hM12, hcc12, hfr12⟩ := Kd.R_elem HX12.out z42 (x4_1 : Int) (od_) (by have h_ : (x4_1 : Int) < ((x3_1.length : Int) : Int) := od_; first | exact h_ | (have e_ := (Kd.R_reads' HO_3.out).1; omega) | simpa using h_); obtain ⟨ve12_3, ve12_4, ve12_5, rfl, ge12_3, ge12_4, ge12_5⟩ := k42_openM hM12; have HP12 := Kd.R_seg HX12.out (x4_1 : Int) (od_) (by have h_ : (x4_1 : Int) < ((x3_1.length : Int) : Int) := od_; first | exact h_ | (have e_ := (Kd.R_reads' HO_3.out).1; omega) | simpa using h_) (seg := [.int .i64 t329, .bool t330, .int .i64 t331, v333, v336, v339]) (j := 0) hcl12 hcc12 (show 6 ≤ 6 from by decide) (x' := (⟨t329, t330, t331, t332, t335, t338⟩ : S42)) (k42_mkM _ _ _ (⟨t329, t330, t331, t332, t335, t338⟩ : S42) (Kd.R_mono (Kd.R_apart' (HO334.out) (Kd.R_typed HO_3.out) (by decide)) (fun k_ hk => ⟨trivial, fun e_ => (hk.2) (by rw [e_]; rfl)⟩)) (Kd.R_mono (Kd.R_apart' (HO337.out) (Kd.R_typed HO_3.out) (by decide)) (fun k_ hk => ⟨trivial, fun e_ => (hk.2) (by rw [e_]; rfl)⟩)) (Kd.R_mono (Kd.R_apart' ((Kd.S_R HO340.out)) (Kd.R_typed HO_3.out) (by decide)) (fun k_ hk => ⟨trivial, fun e_ => (hk.2) (by rw [e_]; rfl)⟩))) (fun _ hk => hk); have hx12_0 := hcc12 0 _ rfl; (try simp only [show (k42).sz = 6 from rfl, Nat.mul_one, Nat.add_zero] at hx12_0); have hf12_0 := hfr12 0; (try simp only [show (k42).sz = 6 from rfl, Nat.mul_one, Nat.add_zero] at hf12_0); have hx12_1 := hcc12 1 _ rfl; (try simp only [show (k42).sz = 6 from rfl, Nat.mul_one, Nat.add_zero] at hx12_1); have hf12_1 := hfr12 1; (try simp only [show (k42).sz = 6 from rfl, Nat.mul_one, Nat.add_zero] at hf12_1); have hx12_2 := hcc12 2 _ rfl; (try simp only [show (k42).sz = 6 from rfl, Nat.mul_one, Nat.add_zero] at hx12_2); have hf12_2 := hfr12 2; (try simp only [show (k42).sz = 6 from rfl, Nat.mul_one, Nat.add_zero] at hf12_2); have hx12_3 := hcc12 3 _ rfl; (try simp only [show (k42).sz = 6 from rfl, Nat.mul_one, Nat.add_zero] at hx12_3); have hf12_3 := hfr12 3; (try simp only [show (k42).sz = 6 from rfl, Nat.mul_one, Nat.add_zero] at hf12_3); have hx12_4 := hcc12 4 _ rfl; (try simp only [show (k42).sz = 6 from rfl, Nat.mul_one, Nat.add_zero] at hx12_4); have hf12_4 := hfr12 4; (try simp only [show (k42).sz = 6 from rfl, Nat.mul_one, Nat.add_zero] at hf12_4); have hx12_5 := hcc12 5 _ rfl; (try simp only [show (k42).sz = 6 from rfl, Nat.mul_one, Nat.add_zero] at hx12_5); have hf12_5 := hfr12 5; (try simp only [show (k42).sz = 6 from rfl, Nat.mul_one, Nat.add_zero] at hf12_5); clear hcl12 hcc12 hfr12 hM12) | ((with_reducible refine gate_store (t := 42) (p := 21) rfl ?_); refine store_event (t := 42) (p := 21) (v := ?vo_w13) (w1 := ((((((w11.setCell ⟨go10, (x4_1 : Int).toNat * 6, none⟩ (.int .i64 t329)).setCell ⟨go10, (x4_1 : Int).toNat * 6 + 1, none⟩ (.bool t330)).setCell ⟨go10, (x4_1 : Int).toNat * 6 + 2, none⟩ (.int .i64 t331)).setCell ⟨go10, (x4_1 : Int).toNat * 6 + 3, none⟩ (v333)).setCell ⟨go10, (x4_1 : Int).toNat * 6 + 4, none⟩ (v336)).setCell ⟨go10, (x4_1 : Int).toNat * 6 + 5, none⟩ (v339))) ?hg ?ho ?hn ?hr ?_; (case ho => rfl); (case hg => rfl); (case hn => rfl); (case hr => first | (go_simp; done) | (go_simp; rfl)); intro w13 hw; have hg : w11.grownBy w13 (some go10) := (by rw [hw]; exact HP12.2); have hp_ : Kd.R k42 42 w13 w.heap.size (fun _ => True) (.slice (some ⟨go10, 0, none⟩) x3_1.length co10) y341 := (by rw [hw, Ny341.out]; exact HP12.1); clear HP12; replace HO_3 := aa_ (hp_); replace HB := aa_ ((by rw [hw]; exact below_set (below_set (below_set (below_set (below_set (below_set (HB.out) GB10.out) GB10.out) GB10.out) GB10.out) GB10.out) GB10.out : Below w.heap.size w w13)); clear HO334; clear HO337; clear HO340; clear hg hw hp_))
    go_roundg k1
    case measure => have := HK1.out; omega
    case rel => exact ⟨(y341), (wrap64 (x4_1 + 1)), rf_, H', ⟨by have := HK1.out; omega⟩, ⟨rr_ HO_3⟩, ⟨bl_⟩⟩
   ·rw [if_neg c6] at H
    have c6b0 : decide (x4_1 < (l0.length : Int)) = false := decide_eq_false c6
    clear c6
    obtain rfl := Option.some.inj H
    go_wp2
    go_ret
    exact ⟨_, eq_, by (with_reducible repeat (first | apply Kd.R_alloc | apply Kd.R_drewN | apply Kd.R_drew)); exact HO_3.out, bl_⟩
def laws_toRing.f (k : Nat) (l0_0 : List (S57)) : Option ((List (S42))) := (laws_toPeerS.f k l0_0).bind fun t345 => (some t345)
set_option maxHeartbeats 8000000 in
set_option maxRecDepth 100000 in
theorem laws_toRing.calls (k : Nat) (A0_0 : Option Addr) (c0_0 : Nat) (l0_0 : List (S57)) (r : List (S42)) (w : World) (hr0_0 : Kd.C k57 w A0_0 l0_0.length l0_0) (hc0_0 : l0_0.length ≤ c0_0) (h : laws_toRing.f k l0_0 = some r) :
  Calls Try.prog 6 #[.agg #[.slice A0_0 l0_0.length c0_0]] w fun e w' => ∃ v0_ : Value, e = .returned (.agg #[v0_]) ∧ Kd.R k42 42 w' w.heap.size (fun _ => True) v0_ r ∧ Below w.heap.size w w' := by
 have hu24 := Try.underlying24
 have hu29 := Try.underlying29
 have HR0_0 := aa_ hr0_0
 have HC0_0 := aa_ hc0_0
 clear hr0_0 hc0_0
 have HB := aa_ (Below.refl w.heap.size w)
 have H : ((laws_toPeerS.f k l0_0).bind fun t345 => (some t345)) = some r := h
 clear h
 obtain ⟨t345, A2, H⟩ := bindE_ H
 obtain rfl := Option.some.inj H
 go_enter Try.func6, Try.ntmps6
 go_wp2_with (first | ((with_reducible refine gD_ 1 rfl ?_); refine bx_ (N := 1) (cs := #[.slice A0_0 l0_0.length c0_0]) (t := 24) ?_; intro gb342 hg w3 hbox hb; have BK342 := aa_ (hbox); have GW342 := gs_ hg; have GE342 := gs_ hg; replace HB := hbs_ hb; clear hb hbox hg) | ((with_reducible refine gD_ 2 rfl ?_); refine bx_ (N := 2) (cs := #[.slice none 0 0]) (t := 29) ?_; intro gb343 hg w4 hbox hb; have BK343 := aa_ (hbox); have GW343 := gs_ hg; have GE343 := gs_ hg; replace HB := hbs_ hb; have NB342_343 := nl_ hg BK342; have NB343_342 := nr_ hg BK342; replace BK342 := bkb_ BK342 hb; clear hb hbox hg) | ((with_reducible refine gD_ 3 rfl ?_); refine bx_ (N := 3) (cs := #[.slice none 0 0]) (t := 29) ?_; intro gb344 hg w5 hbox hb; have BK344 := aa_ (hbox); have GW344 := gs_ hg; have GE344 := gs_ hg; replace HB := hbs_ hb; have NB342_344 := nl_ hg BK342; have NB344_342 := nr_ hg BK342; replace BK342 := bkb_ BK342 hb; have NB343_344 := nl_ hg BK343; have NB344_343 := nr_ hg BK343; replace BK343 := bkb_ BK343 hb; clear hb hbox hg; have hnb6 := NB342_343.out; have hnc6 := NB343_342.out; have hnb7 := NB342_344.out; have hnc7 := NB344_342.out; obtain ⟨hcz8, hfz8⟩ := bcf_ BK342) | ((with_reducible refine gC_ 19 rfl ?_); refine goesC_ (some 6) Try.func19 #[.slice A0_0 l0_0.length c0_0] ?_; (with_reducible refine (laws_toPeerS.calls k _ _ l0_0 t345 _ ?side1 ?side2 A2.out).mono ?_); (case side1 => repeat (first | exact (Kd.C_below HR0_0.out HB.out) | (with_reducible refine Kd.C_alloc ?_ _) | (with_reducible refine Kd.C_drewN ?_ _) | (with_reducible refine Kd.C_drew ?_))); (case side2 => exact HC0_0.out); rintro e w9 ⟨v346, rfl, ho0, hb⟩; refine ⟨_, rfl, ?_⟩; have HO347 := aa_ (Kd.R_lower ho0 bls_); replace BK342 := bkb_ BK342 hb; replace BK343 := bkb_ BK343 hb; replace BK344 := bkb_ BK344 hb; replace HB := hbs_ hb; (try clear hb ho0); obtain ⟨Ao10, co10, eo10⟩ := Kd.R_slice HO347.out; subst eo10; have hnb11 := NB344_343.out; have hnc11 := NB343_344.out; obtain ⟨hcz12, hfz12⟩ := bcf_ BK344; obtain ⟨hcz13, hfz13⟩ := bcf_ BK343))
 refine bodyPost_ret (results_cell_row rfl _ _ gb343 29 #[.slice Ao10 t345.length co10] (0, 0) _ rfl (bk_ BK343) Try.underlying29 rfl (by kernel_rfl)) rfl ?_
 exact ⟨_, eq_, by (with_reducible repeat (first | apply Kd.R_alloc | apply Kd.R_drewN | apply Kd.R_drew)); exact Kd.R_mono (Kd.R_far (p := ⟨gb343, 0, none⟩) (Kd.R_far (p := ⟨gb344, 0, none⟩) (Kd.R_types (Kd.R_types HO347.out BK344.out (by decide)) BK343.out (by decide)) (fun _ hk => hk.1.2) (.slice Ao10 t345.length co10)) (fun _ hk => hk.2) (.slice Ao10 t345.length co10)) (fun _ hk => trivial), bl_⟩
def slices_Sort_int_int.f (l0 : List (Int)) : Option (List (Int)) := if l0.length < 4611686018427387904 then some (l0.mergeSort fun x y => decide (x ≤ y)) else none
open Go.Sort in
theorem slices_Sort_int_int.calls (P0_ : Nat → Prop) (u9000_ : Value) (l0 : List (Int)) (r0 : List (Int)) (w0 w : World) (hB : Below w0.heap.size w0 w) (ho0 : Kd.R (Kd.int .i64) 3 w w0.heap.size P0_ u9000_ l0) (h : slices_Sort_int_int.f l0 = some r0) :
  Calls Try.prog 35 #[u9000_] w fun e w' => e = .returned (.tuple #[]) ∧ Kd.R (Kd.int .i64) 3 w' w0.heap.size (fun k_ => (P0_ k_ ∨ w.heap.size ≤ k_)) u9000_ r0 ∧ Below w0.heap.size w0 w' ∧ Kept w w' (fun k_ => P0_ k_) := by
 unfold slices_Sort_int_int.f at h
 by_cases hl : l0.length < 4611686018427387904
 ·rw [if_pos hl] at h
  obtain rfl := Option.some.inj h
  have hml : (l0.mergeSort fun x y => decide (x ≤ y)).length = l0.length := List.length_mergeSort _
  have hown := Kd.own_of_R (enc := Value.int .i64) ho0
  obtain ⟨e1, hf⟩ := hown
  rcases hf with ⟨rfl, hn⟩ | ⟨g, cap, cur, rfl, hg, hb, hn, hc, hs, ht⟩
  ·have e0 : l0 = [] := List.length_eq_zero_iff.1 hn
   subst e0
   have hcon := Any.slices_Sort_int_none Try.lays189 none 0 w
   change Calls Try.prog 35 _ _ _ at hcon
   refine hcon.mono ?_
   rintro e w' ⟨rfl, rfl⟩
   have e1 : (([] : List Int).mergeSort fun x y => decide (x ≤ y)) = [] := by simp
   rw [e1]
   exact ⟨rfl, Kd.R_nil _ _ _ _ _, hB, Kept.refl _ _⟩
  ·have hcon := Any.slices_Sort_int Try.lays189 g 0 cap l0 w (holds_of_blockI hb (by rw [Nat.mul_one] at ht; exact ht)) (blk_lt hb) hl
   change Calls Try.prog 35 _ _ _ at hcon
   refine hcon.mono ?_
   rintro e w' ⟨rfl, n, os, rfl⟩
   refine ⟨rfl, ?_, hB.grown (grownBy_sortedI _) hB.size (fun k hk => by injection hk with hk; omega), Kept.of_grown (grownBy_sortedI _) (Kept.refl _ _) (fun k hk => .inl (ho0.1 k hk))⟩
   have ho := ownsRow_sortedI (n := n) (os := os) hml hg hb hn hc hs
   rw [← hml] at ho ⊢
   exact Kd.R_of_own ho (fun k hk => .inl (ho0.1 k hk))
 ·rw [if_neg hl] at h
  exact absurd h (by simp)
end Go.Proofs.Ytkimdmdkldlhpaa.PA
