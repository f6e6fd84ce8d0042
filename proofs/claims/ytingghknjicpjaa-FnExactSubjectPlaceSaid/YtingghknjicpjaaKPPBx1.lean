import Derived.Test.YtingghknjicpjaaKPPBx0
-- printed by wip/tools
namespace Go.Proofs.Ytingghknjicpjaa.PB
open Go.RowKit Go.Proofs.YtingghknjicpjaaW.PrintWords Go.Proofs.YtingghknjicpjaaW.PrintLast Go.Proofs.YtingghknjicpjaaW.PrintMore
attribute [local go_sem] max2_int min2_int max_two min_two max_three min_three max_four min_four
set_option linter.unusedVariables false
set_option linter.unusedSimpArgs false
def spec_Digest.f (a0 : ByteArray) : Option ByteArray := if a0.size ≤ 2097152 then some (PS.digS a0) else none
theorem spec_Digest.calls (a0 : ByteArray) (r : ByteArray) (w : World) (h : spec_Digest.f a0 = some r) :
  Calls Try.prog 6 #[.string a0] w fun e w' => e = .returned (.string r) ∧ Below w.heap.size w w' := by
 unfold spec_Digest.f at h
 by_cases hc : a0.size ≤ 2097152
 ·rw [if_pos hc] at h
  obtain rfl := Option.some.inj h
  exact PS.digest_calls a0 hc w
 ·rw [if_neg hc] at h
  exact absurd h (by simp)
def spec_SubjectPlace.f (a0 : ByteArray) : Option (Int) := if 1 + a0.size ≤ 9223372036854775807 then ((spec_Digest.f ((⟨#[106]⟩ : ByteArray) ++ a0)).bind fun t101 => (if 0 < (t101.size : Int) then (some (wrap64 (bt t101 0))) else (none))) else (none)
set_option maxHeartbeats 8000000 in
set_option maxRecDepth 100000 in
theorem spec_SubjectPlace.calls (a0 : ByteArray) (r : Int) (w : World) (h : spec_SubjectPlace.f a0 = some r) :
  Calls Try.prog 4 #[.string a0] w fun e w' => e = .returned (.int .i64 r) ∧ Below w.heap.size w w' := by
 have HB := aa_ (Below.refl w.heap.size w)
 have H : (if 1 + a0.size ≤ 9223372036854775807 then ((spec_Digest.f ((⟨#[106]⟩ : ByteArray) ++ a0)).bind fun t101 => (if 0 < (t101.size : Int) then (some (wrap64 (bt t101 0))) else (none))) else (none)) = some r := h
 clear h
 obtain ⟨c2, H⟩ := ifn_ H
 have c2b0 := eq_true c2
 have c2b1 : decide (1 + a0.size ≤ 9223372036854775807) = true := decide_eq_true c2
 try have c2b2 : (9223372036854775807 < 1 + a0.size) = False := eq_false (Nat.not_lt.2 c2)
 obtain ⟨t101, A3, H⟩ := bindE_ H
 obtain ⟨c4, H⟩ := ifn_ H
 have c4b0 : decide (0 < (t101.size : Int)) = true := decide_eq_true c4
 have c4b1 : decide (0 < t101.size) = true := decide_eq_true (by omega)
 clear c4
 obtain rfl := Option.some.inj H
 go_enter Try.func4, Try.ntmps4
 go_wp2_with (first | ((with_reducible refine gC_ 6 rfl ?_); refine goesC_ (some 5) Try.func6 #[.string ((⟨#[106]⟩ : ByteArray) ++ a0)] ?_; (with_reducible refine (spec_Digest.calls ((⟨#[106]⟩ : ByteArray) ++ a0) t101 _ A3.out).mono ?_); rintro e w6 ⟨rfl, hb⟩; refine ⟨_, rfl, ?_⟩; replace HB := hbs_ hb; clear hb; have p5 : 0 ≤ (0 : Int) := (by omega); have q5 : 0 < t101.size := (by have : (0 : Int) < (t101.size : Int) := od_; omega); have hx5 : ∀ h : 0 < t101.size, ((t101[0]'h).toNat : Int) = bt t101 0 := bt_at t101 0; clear p5; have qi5 : (0 < (t101.size : Int)) = True := eq_true (od_); replace q5 := eq_true q5))
 go_ret
 exact ⟨eq_, bl_⟩
def impl_ShaStart.f  : Option (List Int) := some (([1779033703, 3144134277, 1013904242, 2773480762, 1359893119, 2600822924, 528734635, 1541459225] : List Int))
set_option maxHeartbeats 8000000 in
set_option maxRecDepth 100000 in
theorem impl_ShaStart.calls  (r : List Int) (w : World) (h : impl_ShaStart.f  = some r) :
  Calls Try.prog 12 #[] w fun e w' => ∃ v0_ : Value, e = .returned (v0_) ∧ Kd.R (Kd.int .i64) 3 w' w.heap.size (fun _ => True) v0_ r ∧ Below w.heap.size w w' := by
 have HB := aa_ (Below.refl w.heap.size w)
 have H : (some (([1779033703, 3144134277, 1013904242, 2773480762, 1359893119, 2600822924, 528734635, 1541459225] : List Int))) = some r := h
 clear h
 obtain ⟨y102, hy102⟩ : ∃ y_ : List Int, y_ = (([1779033703, 3144134277, 1013904242, 2773480762, 1359893119, 2600822924, 528734635, 1541459225] : List Int)) := ⟨_, rfl⟩
 replace H : (some y102) = some r := rh_ hy102 H
 have Ny102 := aa_ hy102
 clear hy102
 obtain rfl := Option.some.inj H
 go_enter Try.func12, Try.ntmps12
 go_wp2_with (first | ((with_reducible refine gD_ 1 rfl ?_); refine Kd.R_lit (Kd.int .i64) _ 3 ?hg (N := 1) ?hd (xs := ([1779033703, 3144134277, 1013904242, 2773480762, 1359893119, 2600822924, 528734635, 1541459225] : List Int)) (inner := [.int .i64 1779033703, .int .i64 3144134277, .int .i64 1013904242, .int .i64 2773480762, .int .i64 1359893119, .int .i64 2600822924, .int .i64 528734635, .int .i64 1541459225]) (ok := fun _ => True) (okp := fun _ => True) ?hr ?hp (fun _ hk => hk) trivial (Below.refl _ _) (Nat.le_refl _) (by simp) ?_; (case hd => rfl); (case hg => rfl); (case hr => first | (go_simp; done) | (go_simp; rfl)); (case hp => exact (Reps.one (show Kd.M (Kd.int .i64) _ _ _ 1779033703 [.int .i64 1779033703] from rfl) (Reps.one (show Kd.M (Kd.int .i64) _ _ _ 3144134277 [.int .i64 3144134277] from rfl) (Reps.one (show Kd.M (Kd.int .i64) _ _ _ 1013904242 [.int .i64 1013904242] from rfl) (Reps.one (show Kd.M (Kd.int .i64) _ _ _ 2773480762 [.int .i64 2773480762] from rfl) (Reps.one (show Kd.M (Kd.int .i64) _ _ _ 1359893119 [.int .i64 1359893119] from rfl) (Reps.one (show Kd.M (Kd.int .i64) _ _ _ 2600822924 [.int .i64 2600822924] from rfl) (Reps.one (show Kd.M (Kd.int .i64) _ _ _ 528734635 [.int .i64 528734635] from rfl) (Reps.one (show Kd.M (Kd.int .i64) _ _ _ 1541459225 [.int .i64 1541459225] from rfl) (Reps.none _ _)))))))))); intro v103 w1 ho2 hb hg_ hnew_; clear hg_ hnew_; (first | rw [← Ny102.out] at ho2 | (simp only [Int.reduceToNat] at ho2; rw [← Ny102.out] at ho2)); have HO104 := aa_ (Kd.R_lower ho2 bls_); replace HB := hbs_ hb; clear hb ho2))
 go_ret
 exact ⟨_, eq_, by (with_reducible repeat (first | apply Kd.R_alloc | apply Kd.R_drewN | apply Kd.R_drew)); exact HO104.out, bl_⟩
def strings_Repeat.f (a0 : ByteArray) (a1 : Int) : Option ByteArray := if 0 ≤ a1 ∧ a1 ≤ 1000000 ∧ (a0.size : Int) * a1 ≤ 1000000 then some ⟨(Lib.repeatL a0.data.toList a1.toNat).toArray⟩ else none
theorem strings_Repeat.calls (a0 : ByteArray) (a1 : Int) (r : ByteArray) (w : World) (h : strings_Repeat.f a0 a1 = some r) :
  Calls Try.prog 16 #[.string a0, .int .i64 a1] w fun e w' => e = .returned (.string r) ∧ Below w.heap.size w w' := by
 unfold strings_Repeat.f at h
 by_cases hc : 0 ≤ a1 ∧ a1 ≤ 1000000 ∧ (a0.size : Int) * a1 ≤ 1000000
 ·rw [if_pos hc] at h
  obtain rfl := Option.some.inj h
  obtain ⟨c, hc'⟩ := Int.eq_ofNat_of_zero_le hc.1
  subst hc'
  have h2 : a0.size * c ≤ 1000000 := by have := hc.2.2; have e : ((a0.size * c : Nat) : Int) = (a0.size : Int) * (c : Int) := Int.natCast_mul _ _; omega
  have h0 : c ≤ 9223372036854775807 := by have := hc.2.1; omega
  exact Any.strings_Repeat Try.lays105 Try.Builder_Extra_105 a0 c w h0 (by omega)
 ·rw [if_neg hc] at h
  exact absurd h (by simp)
def impl_PadText.l0 : Nat → ByteArray → Int → List Int → Int → Option (ByteArray)
 | 0, _, _, _, _ => none
 | k + 1, x3, x5, x6, x7 => if x7 ≥ 0 then (if 0 ≤ x7 then (if x7 < (x6.length : Int) then (impl_PadText.l0 k x3 (x5 / 256) (x6.set (x7 : Int).toNat ((x5) % 256)) (wrap64 (x7 - 1))) else (none)) else (none)) else (if x3.size + (strOfNums x6).size ≤ 9223372036854775807 then (some (x3 ++ (strOfNums x6))) else (none))
def impl_PadText.f (k : Nat) (a0 : ByteArray) : Option (ByteArray) := if a0.size + 1 ≤ 9223372036854775807 then ((strings_Repeat.f (⟨#[0]⟩ : ByteArray) (((56 - (((a0 ++ (⟨#[128]⟩ : ByteArray)).size : Int) % 64)) + 64) % 64)).bind fun t105 => (if (a0 ++ (⟨#[128]⟩ : ByteArray)).size + t105.size ≤ 9223372036854775807 then (if 8 ≤ 281474976710656 then (impl_PadText.l0 k ((a0 ++ (⟨#[128]⟩ : ByteArray)) ++ t105) (wrap64 (8 * (a0.size : Int))) (List.replicate 8 0) 7) else (none)) else (none))) else (none)
set_option maxHeartbeats 8000000 in
set_option maxRecDepth 100000 in
theorem impl_PadText.calls (k : Nat) (a0 : ByteArray) (r : ByteArray) (w : World) (h : impl_PadText.f k a0 = some r) :
  Calls Try.prog 13 #[.string a0] w fun e w' => e = .returned (.string r) ∧ Below w.heap.size w w' := by
 have HB := aa_ (Below.refl w.heap.size w)
 have H : (if a0.size + 1 ≤ 9223372036854775807 then ((strings_Repeat.f (⟨#[0]⟩ : ByteArray) (((56 - (((a0 ++ (⟨#[128]⟩ : ByteArray)).size : Int) % 64)) + 64) % 64)).bind fun t105 => (if (a0 ++ (⟨#[128]⟩ : ByteArray)).size + t105.size ≤ 9223372036854775807 then (if 8 ≤ 281474976710656 then (impl_PadText.l0 k ((a0 ++ (⟨#[128]⟩ : ByteArray)) ++ t105) (wrap64 (8 * (a0.size : Int))) (List.replicate 8 0) 7) else (none)) else (none))) else (none)) = some r := h
 clear h
 obtain ⟨c2, H⟩ := ifn_ H
 have c2b0 := eq_true c2
 have c2b1 : decide (a0.size + 1 ≤ 9223372036854775807) = true := decide_eq_true c2
 try have c2b2 : (9223372036854775807 < a0.size + 1) = False := eq_false (Nat.not_lt.2 c2)
 obtain ⟨t105, A3, H⟩ := bindE_ H
 obtain ⟨c4, H⟩ := ifn_ H
 have c4b0 := eq_true c4
 have c4b1 : decide ((a0 ++ (⟨#[128]⟩ : ByteArray)).size + t105.size ≤ 9223372036854775807) = true := decide_eq_true c4
 try have c4b2 : (9223372036854775807 < (a0 ++ (⟨#[128]⟩ : ByteArray)).size + t105.size) = False := eq_false (Nat.not_lt.2 c4)
 (try (have c4b3 := c4b2; simp only [ByteArray.size_append] at c4b3)); (try (have c4b4 := c4b0; simp only [ByteArray.size_append] at c4b4))
 obtain ⟨c5, H⟩ := ifn_ H
 have c5b0 := eq_true c5
 have c5b1 : decide (8 ≤ 281474976710656) = true := decide_eq_true c5
 clear c5
 obtain ⟨y106, hy106⟩ : ∃ y_ : List Int, y_ = (List.replicate 8 0) := ⟨_, rfl⟩
 replace H : (impl_PadText.l0 k ((a0 ++ (⟨#[128]⟩ : ByteArray)) ++ t105) (wrap64 (8 * (a0.size : Int))) y106 7) = some r := rh_ hy106 H
 have Ny106 := aa_ hy106
 clear hy106
 have H' := aa_ H
 clear H
 have eZ : (((56 - (((a0 ++ (⟨#[128]⟩ : ByteArray)).size : Int) % 64)) + 64) % 64) = ((56 - ((a0.size : Int) + 1) % 64 + 64) % 64) := by rw [ByteArray.size_append]; rfl
 have A3' := A3.out
 rw [eZ] at A3'
 replace A3 := aa_ A3'
 clear A3' eZ
 have c4n : a0.size + 1 + t105.size ≤ 9223372036854775807 := by have h_ := c4; rw [ByteArray.size_append] at h_; exact h_
 have c4b7 : (9223372036854775807 < a0.size + 1 + t105.size) = False := eq_false (Nat.not_lt.2 c4n)
 have c4b8 := eq_true c4n
 clear c4n
 go_enter Try.func13, Try.ntmps13
 go_wp2_with (first | ((with_reducible refine gC_ 16 rfl ?_); refine goesC_ (some 18) Try.func16 #[.string (⟨#[0]⟩ : ByteArray), .int .i64 ((56 - ((a0.size : Int) + 1) % 64 + 64) % 64)] ?_; (with_reducible refine (strings_Repeat.calls (⟨#[0]⟩ : ByteArray) ((56 - ((a0.size : Int) + 1) % 64 + 64) % 64) t105 _ A3.out).mono ?_); rintro e w6 ⟨rfl, hb⟩; refine ⟨_, rfl, ?_⟩; replace HB := hbs_ hb; clear hb) | ((with_reducible refine gD_ 23 rfl ?_); refine Kd.R_make (Kd.int .u8) _ 5 rfl (N := 23) rfl 31 _ _ rfl 8 rfl rfl Try.underlying31 (.int .u8 0) 1 info5 rfl (by decide) (by omega) 0 (ok := fun _ => True) (okp := fun _ => True) rfl (fun _ hk => hk) trivial (by omega) (by omega) (Below.refl _ _) (Nat.le_refl _) ?_; intro v107 w7 ho8 hb hg_ hnew_; clear hg_ hnew_; (first | rw [← Ny106.out] at ho8 | (simp only [Int.reduceToNat] at ho8; rw [← Ny106.out] at ho8)); have HO108 := aa_ (Kd.R_lower ho8 bls_); replace HB := hbs_ hb; clear hb ho8))
 go_loopg [5, 7] k (fun kq v5 v7 w' => ∃ (x5_1 : Int) (x6_1 : List Int) (x7_1 : Int), v5 = .int .i64 x5_1 ∧ v7 = .int .i64 x7_1 ∧ Aside0 (impl_PadText.l0 kq ((a0 ++ (⟨#[128]⟩ : ByteArray)) ++ t105) x5_1 x6_1 x7_1 = some r) ∧ Aside0 (kq ≤ k) ∧ Aside0 (Kd.R (Kd.int .u8) 5 w' w.heap.size (fun _ => True) v107 x6_1) ∧ Aside0 (Below w.heap.size w w'))
 case atStart => exact ⟨(wrap64 (8 * (a0.size : Int))), (y106), (7), rf_, rf_, H', ⟨Nat.le_refl _⟩, ⟨rr_ HO108⟩, ⟨bl_⟩⟩
 case round =>
  clear H'
  try clear c1
  try clear c2
  try clear c2b0
  try clear c2b1
  try clear c2b2
  try clear p2
  try clear c4
  try clear c4b0
  try clear c4b1
  try clear c4b2
  try clear c5
  try clear c5b0
  try clear c5b1
  try clear p6
  obtain ⟨x5_1, x6_1, x7_1, rfl, rfl, HA, HK1, HO_6, HB⟩ := hrel
  cases gk with
  | zero => exact absurd HA.out (by simp [impl_PadText.l0])
  | succ k1 =>
   have H := HA.out
   clear HA
   simp only [impl_PadText.l0] at H
   by_cases c9 : x7_1 ≥ 0
   ·rw [if_pos c9] at H
    have c9b0 : decide (0 ≤ x7_1) = true := decide_eq_true c9
    clear c9
    obtain ⟨c10b0, H⟩ := ifd_ H
    obtain ⟨c11b0, H⟩ := ifd_ H
    obtain ⟨y109, hy109⟩ : ∃ y_ : List Int, y_ = (x6_1.set (x7_1 : Int).toNat ((x5_1) % 256)) := ⟨_, rfl⟩
    replace H : (impl_PadText.l0 k1 ((a0 ++ (⟨#[128]⟩ : ByteArray)) ++ t105) (x5_1 / 256) y109 (wrap64 (x7_1 - 1))) = some r := rh_ hy109 H
    have Ny109 := aa_ hy109
    clear hy109
    have H' := aa_ H
    clear H
    have p12 : 0 ≤ (x7_1 : Int) := od_
    have q12 : (x7_1 : Int) < ((x6_1.length : Int) : Int) := od_
    obtain ⟨go12, co12, eo12, gb12, gl12, cl12, HG12⟩ := Kd.R_form HO_6.out (by omega)
    (first | cases eo12 | (injection eo12 with ea_ en_ ec_; (first | subst ea_ | (injection ea_ with ea_; subst ea_)); subst ec_; clear en_))
    have GB12 := aa_ gb12
    have GG12 := aa_ HG12
    clear gb12 gl12 HG12
    obtain ⟨hx12_0, hf12_0⟩ := Kd.R_celln 0 HO_6.out (x7_1 : Int) p12 q12
    replace p12 := eq_true p12
    replace q12 := eq_true q12
    have HP13 := Kd.R_putg HO_6.out (x7_1 : Int) ((x5_1) % 256)
    go_wp2_with (first | ((with_reducible refine gate_store (t := 5) (p := 32) rfl ?_); refine store_event (t := 5) (p := 32) (v := ?vo_w14) (w1 := (wr.setCell ⟨go12, (x7_1 : Int).toNat, none⟩ (.int .u8 ((x5_1) % 256)))) ?hg ?ho ?hn ?hr ?_; (case ho => rfl); (case hg => rfl); (case hn => rfl); (case hr => first | (go_simp; done) | (go_simp; rfl)); intro w14 hw; have hg : wr.grownBy w14 (some go12) := (by rw [hw]; exact HP13.2); have hp_ : Kd.R (Kd.int .u8) 5 w14 w.heap.size (fun _ => True) (.slice (some ⟨go12, 0, none⟩) x6_1.length co12) y109 := (by rw [hw, Ny109.out]; exact HP13.1); clear HP13; replace HO_6 := aa_ (hp_); replace HB := aa_ ((by rw [hw]; exact below_set (HB.out) GB12.out : Below w.heap.size w w14)); clear hg hw hp_))
    go_roundg k1
    case measure => have := HK1.out; omega
    case rel => exact ⟨(x5_1 / 256), (y109), (wrap64 (x7_1 - 1)), rf_, rf_, H', ⟨by have := HK1.out; omega⟩, ⟨rr_ HO_6⟩, ⟨bl_⟩⟩
   ·rw [if_neg c9] at H
    have c9b0 : decide (0 ≤ x7_1) = false := decide_eq_false c9
    clear c9
    obtain ⟨c15, H⟩ := ifn_ H
    have c15b0 := eq_true c15
    have c15b1 : decide (((a0 ++ (⟨#[128]⟩ : ByteArray)) ++ t105).size + (strOfNums x6_1).size ≤ 9223372036854775807) = true := decide_eq_true c15
    try have c15b2 : (9223372036854775807 < ((a0 ++ (⟨#[128]⟩ : ByteArray)) ++ t105).size + (strOfNums x6_1).size) = False := eq_false (Nat.not_lt.2 c15)
    (try (have c15b3 := c15b2; simp only [ByteArray.size_append] at c15b3)); (try (have c15b4 := c15b0; simp only [ByteArray.size_append] at c15b4))
    obtain rfl := Option.some.inj H
    have hcv16 := own_string (P := Try.prog) Try.underlying31 Try.underlying5 Try.underlying9 (Kd.own_of_R HO_6.out)
    go_wp2
    go_ret
    exact ⟨eq_, bl_⟩
def impl_in.f (a0 : Int) (a1 : Int) (a2 : Int) : Option (Bool) := if a0 ≥ a1 then (some (decide (a0 ≤ a2))) else (some false)
set_option maxHeartbeats 8000000 in
set_option maxRecDepth 100000 in
theorem impl_in.calls (a0 : Int) (a1 : Int) (a2 : Int) (r : Bool) (w : World) (h : impl_in.f a0 a1 a2 = some r) :
  Calls Try.prog 17 #[.int .i64 a0, .int .i64 a1, .int .i64 a2] w fun e w' => e = .returned (.bool r) ∧ Drawn0 w w' := by
 have H : (if a0 ≥ a1 then (some (decide (a0 ≤ a2))) else (some false)) = some r := h
 clear h
 by_cases c4 : a0 ≥ a1
 ·rw [if_pos c4] at H
  have c4b0 : decide (a1 ≤ a0) = true := decide_eq_true c4
  clear c4
  obtain rfl := Option.some.inj H
  go_enter Try.func17, Try.ntmps17
  go_wp2
  go_ret
  exact ⟨by first | rfl | (simp; done) | (simp [*]; done), by repeat (first | exact Drawn0.refl _ | apply Drawn0.step)⟩
 ·rw [if_neg c4] at H
  have c4b0 : decide (a1 ≤ a0) = false := decide_eq_false c4
  clear c4
  obtain rfl := Option.some.inj H
  go_enter Try.func17, Try.ntmps17
  go_wp2
  go_ret
  exact ⟨by first | rfl | (simp; done) | (simp [*]; done), by repeat (first | exact Drawn0.refl _ | apply Drawn0.step)⟩
def impl_rounds.f  : Option (List Int) := some (([1116352408, 1899447441, 3049323471, 3921009573, 961987163, 1508970993, 2453635748, 2870763221, 3624381080, 310598401, 607225278, 1426881987, 1925078388, 2162078206, 2614888103, 3248222580, 3835390401, 4022224774, 264347078, 604807628, 770255983, 1249150122, 1555081692, 1996064986, 2554220882, 2821834349, 2952996808, 3210313671, 3336571891, 3584528711, 113926993, 338241895, 666307205, 773529912, 1294757372, 1396182291, 1695183700, 1986661051, 2177026350, 2456956037, 2730485921, 2820302411, 3259730800, 3345764771, 3516065817, 3600352804, 4094571909, 275423344, 430227734, 506948616, 659060556, 883997877, 958139571, 1322822218, 1537002063, 1747873779, 1955562222, 2024104815, 2227730452, 2361852424, 2428436474, 2756734187, 3204031479, 3329325298] : List Int))
set_option maxHeartbeats 8000000 in
set_option maxRecDepth 100000 in
theorem impl_rounds.calls  (r : List Int) (w : World) (h : impl_rounds.f  = some r) :
  Calls Try.prog 18 #[] w fun e w' => ∃ v0_ : Value, e = .returned (v0_) ∧ Kd.R (Kd.int .u32) 25 w' w.heap.size (fun _ => True) v0_ r ∧ Below w.heap.size w w' := by
 have HB := aa_ (Below.refl w.heap.size w)
 have H : (some (([1116352408, 1899447441, 3049323471, 3921009573, 961987163, 1508970993, 2453635748, 2870763221, 3624381080, 310598401, 607225278, 1426881987, 1925078388, 2162078206, 2614888103, 3248222580, 3835390401, 4022224774, 264347078, 604807628, 770255983, 1249150122, 1555081692, 1996064986, 2554220882, 2821834349, 2952996808, 3210313671, 3336571891, 3584528711, 113926993, 338241895, 666307205, 773529912, 1294757372, 1396182291, 1695183700, 1986661051, 2177026350, 2456956037, 2730485921, 2820302411, 3259730800, 3345764771, 3516065817, 3600352804, 4094571909, 275423344, 430227734, 506948616, 659060556, 883997877, 958139571, 1322822218, 1537002063, 1747873779, 1955562222, 2024104815, 2227730452, 2361852424, 2428436474, 2756734187, 3204031479, 3329325298] : List Int))) = some r := h
 clear h
 obtain ⟨y110, hy110⟩ : ∃ y_ : List Int, y_ = (([1116352408, 1899447441, 3049323471, 3921009573, 961987163, 1508970993, 2453635748, 2870763221, 3624381080, 310598401, 607225278, 1426881987, 1925078388, 2162078206, 2614888103, 3248222580, 3835390401, 4022224774, 264347078, 604807628, 770255983, 1249150122, 1555081692, 1996064986, 2554220882, 2821834349, 2952996808, 3210313671, 3336571891, 3584528711, 113926993, 338241895, 666307205, 773529912, 1294757372, 1396182291, 1695183700, 1986661051, 2177026350, 2456956037, 2730485921, 2820302411, 3259730800, 3345764771, 3516065817, 3600352804, 4094571909, 275423344, 430227734, 506948616, 659060556, 883997877, 958139571, 1322822218, 1537002063, 1747873779, 1955562222, 2024104815, 2227730452, 2361852424, 2428436474, 2756734187, 3204031479, 3329325298] : List Int)) := ⟨_, rfl⟩
 replace H : (some y110) = some r := rh_ hy110 H
 have Ny110 := aa_ hy110
 clear hy110
 obtain rfl := Option.some.inj H
 go_enter Try.func18, Try.ntmps18
 go_wp2_with (first | ((with_reducible refine gD_ 1 rfl ?_); refine Kd.R_lit (Kd.int .u32) _ 25 ?hg (N := 1) ?hd (xs := ([1116352408, 1899447441, 3049323471, 3921009573, 961987163, 1508970993, 2453635748, 2870763221, 3624381080, 310598401, 607225278, 1426881987, 1925078388, 2162078206, 2614888103, 3248222580, 3835390401, 4022224774, 264347078, 604807628, 770255983, 1249150122, 1555081692, 1996064986, 2554220882, 2821834349, 2952996808, 3210313671, 3336571891, 3584528711, 113926993, 338241895, 666307205, 773529912, 1294757372, 1396182291, 1695183700, 1986661051, 2177026350, 2456956037, 2730485921, 2820302411, 3259730800, 3345764771, 3516065817, 3600352804, 4094571909, 275423344, 430227734, 506948616, 659060556, 883997877, 958139571, 1322822218, 1537002063, 1747873779, 1955562222, 2024104815, 2227730452, 2361852424, 2428436474, 2756734187, 3204031479, 3329325298] : List Int)) (inner := [.int .u32 1116352408, .int .u32 1899447441, .int .u32 3049323471, .int .u32 3921009573, .int .u32 961987163, .int .u32 1508970993, .int .u32 2453635748, .int .u32 2870763221, .int .u32 3624381080, .int .u32 310598401, .int .u32 607225278, .int .u32 1426881987, .int .u32 1925078388, .int .u32 2162078206, .int .u32 2614888103, .int .u32 3248222580, .int .u32 3835390401, .int .u32 4022224774, .int .u32 264347078, .int .u32 604807628, .int .u32 770255983, .int .u32 1249150122, .int .u32 1555081692, .int .u32 1996064986, .int .u32 2554220882, .int .u32 2821834349, .int .u32 2952996808, .int .u32 3210313671, .int .u32 3336571891, .int .u32 3584528711, .int .u32 113926993, .int .u32 338241895, .int .u32 666307205, .int .u32 773529912, .int .u32 1294757372, .int .u32 1396182291, .int .u32 1695183700, .int .u32 1986661051, .int .u32 2177026350, .int .u32 2456956037, .int .u32 2730485921, .int .u32 2820302411, .int .u32 3259730800, .int .u32 3345764771, .int .u32 3516065817, .int .u32 3600352804, .int .u32 4094571909, .int .u32 275423344, .int .u32 430227734, .int .u32 506948616, .int .u32 659060556, .int .u32 883997877, .int .u32 958139571, .int .u32 1322822218, .int .u32 1537002063, .int .u32 1747873779, .int .u32 1955562222, .int .u32 2024104815, .int .u32 2227730452, .int .u32 2361852424, .int .u32 2428436474, .int .u32 2756734187, .int .u32 3204031479, .int .u32 3329325298]) (ok := fun _ => True) (okp := fun _ => True) ?hr ?hp (fun _ hk => hk) trivial (Below.refl _ _) (Nat.le_refl _) (by simp) ?_; (case hd => rfl); (case hg => rfl); (case hr => first | (go_simp; done) | (go_simp; rfl)); (case hp => exact (Reps.one (show Kd.M (Kd.int .u32) _ _ _ 1116352408 [.int .u32 1116352408] from rfl) (Reps.one (show Kd.M (Kd.int .u32) _ _ _ 1899447441 [.int .u32 1899447441] from rfl) (Reps.one (show Kd.M (Kd.int .u32) _ _ _ 3049323471 [.int .u32 3049323471] from rfl) (Reps.one (show Kd.M (Kd.int .u32) _ _ _ 3921009573 [.int .u32 3921009573] from rfl) (Reps.one (show Kd.M (Kd.int .u32) _ _ _ 961987163 [.int .u32 961987163] from rfl) (Reps.one (show Kd.M (Kd.int .u32) _ _ _ 1508970993 [.int .u32 1508970993] from rfl) (Reps.one (show Kd.M (Kd.int .u32) _ _ _ 2453635748 [.int .u32 2453635748] from rfl) (Reps.one (show Kd.M (Kd.int .u32) _ _ _ 2870763221 [.int .u32 2870763221] from rfl) (Reps.one (show Kd.M (Kd.int .u32) _ _ _ 3624381080 [.int .u32 3624381080] from rfl) (Reps.one (show Kd.M (Kd.int .u32) _ _ _ 310598401 [.int .u32 310598401] from rfl) (Reps.one (show Kd.M (Kd.int .u32) _ _ _ 607225278 [.int .u32 607225278] from rfl) (Reps.one (show Kd.M (Kd.int .u32) _ _ _ 1426881987 [.int .u32 1426881987] from rfl) (Reps.one (show Kd.M (Kd.int .u32) _ _ _ 1925078388 [.int .u32 1925078388] from rfl) (Reps.one (show Kd.M (Kd.int .u32) _ _ _ 2162078206 [.int .u32 2162078206] from rfl) (Reps.one (show Kd.M (Kd.int .u32) _ _ _ 2614888103 [.int .u32 2614888103] from rfl) (Reps.one (show Kd.M (Kd.int .u32) _ _ _ 3248222580 [.int .u32 3248222580] from rfl) (Reps.one (show Kd.M (Kd.int .u32) _ _ _ 3835390401 [.int .u32 3835390401] from rfl) (Reps.one (show Kd.M (Kd.int .u32) _ _ _ 4022224774 [.int .u32 4022224774] from rfl) (Reps.one (show Kd.M (Kd.int .u32) _ _ _ 264347078 [.int .u32 264347078] from rfl) (Reps.one (show Kd.M (Kd.int .u32) _ _ _ 604807628 [.int .u32 604807628] from rfl) (Reps.one (show Kd.M (Kd.int .u32) _ _ _ 770255983 [.int .u32 770255983] from rfl) (Reps.one (show Kd.M (Kd.int .u32) _ _ _ 1249150122 [.int .u32 1249150122] from rfl) (Reps.one (show Kd.M (Kd.int .u32) _ _ _ 1555081692 [.int .u32 1555081692] from rfl) (Reps.one (show Kd.M (Kd.int .u32) _ _ _ 1996064986 [.int .u32 1996064986] from rfl) (Reps.one (show Kd.M (Kd.int .u32) _ _ _ 2554220882 [.int .u32 2554220882] from rfl) (Reps.one (show Kd.M (Kd.int .u32) _ _ _ 2821834349 [.int .u32 2821834349] from rfl) (Reps.one (show Kd.M (Kd.int .u32) _ _ _ 2952996808 [.int .u32 2952996808] from rfl) (Reps.one (show Kd.M (Kd.int .u32) _ _ _ 3210313671 [.int .u32 3210313671] from rfl) (Reps.one (show Kd.M (Kd.int .u32) _ _ _ 3336571891 [.int .u32 3336571891] from rfl) (Reps.one (show Kd.M (Kd.int .u32) _ _ _ 3584528711 [.int .u32 3584528711] from rfl) (Reps.one (show Kd.M (Kd.int .u32) _ _ _ 113926993 [.int .u32 113926993] from rfl) (Reps.one (show Kd.M (Kd.int .u32) _ _ _ 338241895 [.int .u32 338241895] from rfl) (Reps.one (show Kd.M (Kd.int .u32) _ _ _ 666307205 [.int .u32 666307205] from rfl) (Reps.one (show Kd.M (Kd.int .u32) _ _ _ 773529912 [.int .u32 773529912] from rfl) (Reps.one (show Kd.M (Kd.int .u32) _ _ _ 1294757372 [.int .u32 1294757372] from rfl) (Reps.one (show Kd.M (Kd.int .u32) _ _ _ 1396182291 [.int .u32 1396182291] from rfl) (Reps.one (show Kd.M (Kd.int .u32) _ _ _ 1695183700 [.int .u32 1695183700] from rfl) (Reps.one (show Kd.M (Kd.int .u32) _ _ _ 1986661051 [.int .u32 1986661051] from rfl) (Reps.one (show Kd.M (Kd.int .u32) _ _ _ 2177026350 [.int .u32 2177026350] from rfl) (Reps.one (show Kd.M (Kd.int .u32) _ _ _ 2456956037 [.int .u32 2456956037] from rfl) (Reps.one (show Kd.M (Kd.int .u32) _ _ _ 2730485921 [.int .u32 2730485921] from rfl) (Reps.one (show Kd.M (Kd.int .u32) _ _ _ 2820302411 [.int .u32 2820302411] from rfl) (Reps.one (show Kd.M (Kd.int .u32) _ _ _ 3259730800 [.int .u32 3259730800] from rfl) (Reps.one (show Kd.M (Kd.int .u32) _ _ _ 3345764771 [.int .u32 3345764771] from rfl) (Reps.one (show Kd.M (Kd.int .u32) _ _ _ 3516065817 [.int .u32 3516065817] from rfl) (Reps.one (show Kd.M (Kd.int .u32) _ _ _ 3600352804 [.int .u32 3600352804] from rfl) (Reps.one (show Kd.M (Kd.int .u32) _ _ _ 4094571909 [.int .u32 4094571909] from rfl) (Reps.one (show Kd.M (Kd.int .u32) _ _ _ 275423344 [.int .u32 275423344] from rfl) (Reps.one (show Kd.M (Kd.int .u32) _ _ _ 430227734 [.int .u32 430227734] from rfl) (Reps.one (show Kd.M (Kd.int .u32) _ _ _ 506948616 [.int .u32 506948616] from rfl) (Reps.one (show Kd.M (Kd.int .u32) _ _ _ 659060556 [.int .u32 659060556] from rfl) (Reps.one (show Kd.M (Kd.int .u32) _ _ _ 883997877 [.int .u32 883997877] from rfl) (Reps.one (show Kd.M (Kd.int .u32) _ _ _ 958139571 [.int .u32 958139571] from rfl) (Reps.one (show Kd.M (Kd.int .u32) _ _ _ 1322822218 [.int .u32 1322822218] from rfl) (Reps.one (show Kd.M (Kd.int .u32) _ _ _ 1537002063 [.int .u32 1537002063] from rfl) (Reps.one (show Kd.M (Kd.int .u32) _ _ _ 1747873779 [.int .u32 1747873779] from rfl) (Reps.one (show Kd.M (Kd.int .u32) _ _ _ 1955562222 [.int .u32 1955562222] from rfl) (Reps.one (show Kd.M (Kd.int .u32) _ _ _ 2024104815 [.int .u32 2024104815] from rfl) (Reps.one (show Kd.M (Kd.int .u32) _ _ _ 2227730452 [.int .u32 2227730452] from rfl) (Reps.one (show Kd.M (Kd.int .u32) _ _ _ 2361852424 [.int .u32 2361852424] from rfl) (Reps.one (show Kd.M (Kd.int .u32) _ _ _ 2428436474 [.int .u32 2428436474] from rfl) (Reps.one (show Kd.M (Kd.int .u32) _ _ _ 2756734187 [.int .u32 2756734187] from rfl) (Reps.one (show Kd.M (Kd.int .u32) _ _ _ 3204031479 [.int .u32 3204031479] from rfl) (Reps.one (show Kd.M (Kd.int .u32) _ _ _ 3329325298 [.int .u32 3329325298] from rfl) (Reps.none _ _)))))))))))))))))))))))))))))))))))))))))))))))))))))))))))))))))); intro v111 w1 ho2 hb hg_ hnew_; clear hg_ hnew_; (first | rw [← Ny110.out] at ho2 | (simp only [Int.reduceToNat] at ho2; rw [← Ny110.out] at ho2)); have HO112 := aa_ (Kd.R_lower ho2 bls_); replace HB := hbs_ hb; clear hb ho2))
 go_ret
 exact ⟨_, eq_, by (with_reducible repeat (first | apply Kd.R_alloc | apply Kd.R_drewN | apply Kd.R_drew)); exact HO112.out, bl_⟩
def impl_turn.f (a0 : Int) (a1 : Int) : Option (Int) := if 0 ≤ a1 then (if 0 ≤ (wrap64 (32 - a1)) then (some (Go.bits .or .u32 (shr .u32 a0 a1) (shl .u32 a0 (wrap64 (32 - a1))))) else (none)) else (none)
set_option maxHeartbeats 8000000 in
set_option maxRecDepth 100000 in
theorem impl_turn.calls (a0 : Int) (a1 : Int) (r : Int) (w : World) (h : impl_turn.f a0 a1 = some r) :
  Calls Try.prog 20 #[.int .u32 a0, .int .i64 a1] w fun e w' => e = .returned (.int .u32 r) ∧ Drawn0 w w' := by
 have H : (if 0 ≤ a1 then (if 0 ≤ (wrap64 (32 - a1)) then (some (Go.bits .or .u32 (shr .u32 a0 a1) (shl .u32 a0 (wrap64 (32 - a1))))) else (none)) else (none)) = some r := h
 clear h
 obtain ⟨c3, H⟩ := ifn_ H
 have c3b0 := eq_true c3
 have c3b1 : decide (0 ≤ a1) = true := decide_eq_true c3
 clear c3
 obtain ⟨ji4, hji4⟩ : ∃ j_ : Int, (shr .u32 a0 a1) = j_ := ⟨_, rfl⟩
 replace H : (if 0 ≤ (wrap64 (32 - a1)) then (some (Go.bits .or .u32 (ji4) (shl .u32 a0 (wrap64 (32 - a1))))) else (none)) = some r := by first | (rw [hji4] at H; exact H) | (simp only [hji4] at H ⊢; exact H)
 have hji4_ : (a0 / 2 ^ min a1.toNat 32) = ji4 := hji4
 have hji4z : a1 ≤ 32 → (a0 / 2 ^ a1.toNat) = ji4 := shr_small hji4
 obtain ⟨ji5, hji5⟩ : ∃ j_ : Int, (wrap64 (32 - a1)) = j_ := ⟨_, rfl⟩
 replace H : (if 0 ≤ (ji5) then (some (Go.bits .or .u32 (ji4) (shl .u32 a0 (ji5)))) else (none)) = some r := by first | (rw [hji5] at H; exact H) | (simp only [hji5] at H ⊢; exact H)
 have hji5w : (IntKind.i64.wrap (32 - a1)) = ji5 := (i64_w _).trans hji5
 obtain ⟨c6, H⟩ := ifn_ H
 have c6b0 := eq_true c6
 have c6b1 : decide (0 ≤ (ji5)) = true := decide_eq_true c6
 clear c6
 obtain ⟨ji7, hji7⟩ : ∃ j_ : Int, (shl .u32 a0 (ji5)) = j_ := ⟨_, rfl⟩
 replace H : (some (Go.bits .or .u32 (ji4) (ji7))) = some r := by first | (rw [hji7] at H; exact H) | (simp only [hji7] at H ⊢; exact H)
 have hji7_ : (IntKind.u32.wrap (a0 * 2 ^ min (ji5).toNat 32)) = ji7 := hji7
 have hji7z : (ji5) ≤ 32 → (IntKind.u32.wrap (a0 * 2 ^ (ji5).toNat)) = ji7 := shl_small hji7
 obtain rfl := Option.some.inj H
 go_enter Try.func20, Try.ntmps20
 go_wp2
 repeat (go_quiet (fail); try go_wp2)
 go_ret
 exact ⟨by first | rfl | (simp; done) | (simp only [← hji4, ← hji5, ← hji7] <;> (first | rfl | simp)) | (simp [*]; done), by repeat (first | exact Drawn0.refl _ | apply Drawn0.step)⟩
mutual
def impl_schedule.l0 : Nat → ByteArray → List Int → Int → Option (List Int)
 | 0, _, _, _ => none
 | k + 1, x0, x3, x11 => if x11 < 16 then (if 0 ≤ (wrap64 (4 * x11)) then (if (wrap64 (4 * x11)) < (x0.size : Int) then (if 0 ≤ (wrap64 ((wrap64 (4 * x11)) + 1)) then (if (wrap64 ((wrap64 (4 * x11)) + 1)) < (x0.size : Int) then (if 0 ≤ (wrap64 ((wrap64 (4 * x11)) + 2)) then (if (wrap64 ((wrap64 (4 * x11)) + 2)) < (x0.size : Int) then (if 0 ≤ (wrap64 ((wrap64 (4 * x11)) + 3)) then (if (wrap64 ((wrap64 (4 * x11)) + 3)) < (x0.size : Int) then (if x3.length < 35184372088832 then (impl_schedule.l0 k x0 (x3 ++ [Go.bits .or .u32 (Go.bits .or .u32 (Go.bits .or .u32 ((((bt x0 (wrap64 (4 * x11))) % 4294967296) * 16777216) % 4294967296) ((((bt x0 (wrap64 ((wrap64 (4 * x11)) + 1))) % 4294967296) * 65536) % 4294967296)) ((((bt x0 (wrap64 ((wrap64 (4 * x11)) + 2))) % 4294967296) * 256) % 4294967296)) ((bt x0 (wrap64 ((wrap64 (4 * x11)) + 3))) % 4294967296)]) (wrap64 (x11 + 1))) else (none)) else (none)) else (none)) else (none)) else (none)) else (none)) else (none)) else (none)) else (none)) else (impl_schedule.l1 k x3 16)
def impl_schedule.l1 : Nat → List Int → Int → Option (List Int)
 | 0, _, _ => none
 | k + 1, x3, x5 => if x5 < 64 then (if 0 ≤ (wrap64 (x5 - 15)) then (if (wrap64 (x5 - 15)) < (x3.length : Int) then (if 0 ≤ (wrap64 (x5 - 2)) then (if (wrap64 (x5 - 2)) < (x3.length : Int) then ((impl_turn.f (rd x3 (wrap64 (x5 - 15))) 7).bind fun t121 => ((impl_turn.f (rd x3 (wrap64 (x5 - 15))) 18).bind fun t122 => ((impl_turn.f (rd x3 (wrap64 (x5 - 2))) 17).bind fun t123 => ((impl_turn.f (rd x3 (wrap64 (x5 - 2))) 19).bind fun t124 => (if 0 ≤ (wrap64 (x5 - 16)) then (if (wrap64 (x5 - 16)) < (x3.length : Int) then (if 0 ≤ (wrap64 (x5 - 7)) then (if (wrap64 (x5 - 7)) < (x3.length : Int) then (if x3.length < 35184372088832 then (impl_schedule.l1 k (x3 ++ [((((((rd x3 (wrap64 (x5 - 16))) + (Go.bits .xor .u32 (Go.bits .xor .u32 t121 t122) ((rd x3 (wrap64 (x5 - 15))) / 8))) % 4294967296) + (rd x3 (wrap64 (x5 - 7)))) % 4294967296) + (Go.bits .xor .u32 (Go.bits .xor .u32 t123 t124) ((rd x3 (wrap64 (x5 - 2))) / 1024))) % 4294967296]) (wrap64 (x5 + 1))) else (none)) else (none)) else (none)) else (none)) else (none)))))) else (none)) else (none)) else (none)) else (none)) else (some x3)
end
def impl_schedule.f (k : Nat) (a0 : ByteArray) : Option (List Int) := impl_schedule.l0 k a0 (([] : List Int)) 0
def impl_schedule.T5 : Bool × List (List Nat × List Nat) := (true, [([], []), ([], []), ([], []), ([2], [2]), ([1, 3], [1, 3]), ([4], [4]), ([5], [5]), ([], []), ([], []), ([8], [8]), ([9], [9]), ([7, 10], [7, 10]), ([11], [11]), ([12], [12]), ([6, 13], [6, 13]), ([], []), ([], []), ([16], [16]), ([17], [17]), ([15, 18], [15, 18]), ([19], [19]), ([20], [20]), ([14, 21], [14, 21]), ([], []), ([], []), ([24], [24]), ([25], [25]), ([23, 26], [23, 26]), ([27], [27]), ([22, 28], [22, 28]), ([29], [29]), ([0, 30], [0, 30]), ([31, 31, 0, 1, 2, 3, 4, 5, 6, 7, 8, 9, 10, 11, 12, 13, 14, 15, 16, 17, 18, 19, 20, 21, 22, 23, 24, 25, 26, 27, 28, 29, 30, 31], [0, 31])])
def impl_schedule.B5 : List Nat := [0, 0, 0, 4, 14, 30, 62, 0, 0, 256, 768, 1920, 3968, 8064, 16382, 0, 0, 65536, 196608, 491520, 1015808, 2064384, 4194302, 0, 0, 16777216, 50331648, 125829120, 260046848, 536870910, 1073741822, 2147483647, 4294967295]
theorem impl_schedule.tab5 : rtab .any (opsOf Try.f19 5) = impl_schedule.T5 := by kernel_rfl
theorem impl_schedule.bits5 : waitsOk impl_schedule.T5.2 impl_schedule.B5 = true := by kernel_rfl
def impl_schedule.T10 : Bool × List (List Nat × List Nat) := (true, [([], []), ([], []), ([1], [1]), ([0, 2], [0, 2]), ([3], [3]), ([], []), ([], []), ([6], [6]), ([5, 7], [5, 7]), ([8], [8]), ([4, 0, 1, 2, 3, 4], [4]), ([9, 10, 0, 1, 2, 3, 4, 5, 6, 7, 8, 9, 10], [9])])
def impl_schedule.B10 : List Nat := [0, 0, 2, 7, 15, 0, 0, 64, 224, 480, 31, 2047]
theorem impl_schedule.tab10 : rtab .any (opsOf Try.f19 10) = impl_schedule.T10 := by kernel_rfl
theorem impl_schedule.bits10 : waitsOk impl_schedule.T10.2 impl_schedule.B10 = true := by kernel_rfl
def impl_schedule.T13 : Bool × List (List Nat × List Nat) := (true, [([], []), ([], []), ([], []), ([2], [2]), ([1, 3], [1, 3]), ([4], [4]), ([], []), ([5, 6], [5, 6]), ([], []), ([], []), ([9], [9]), ([8, 10], [8, 10]), ([11], [11]), ([7, 12], [7, 12]), ([], []), ([13, 14], [13, 14]), ([15], [15]), ([0, 16], [0, 16]), ([17, 17, 0, 1, 2, 3, 4, 5, 6, 7, 8, 9, 10, 11, 12, 13, 14, 15, 16, 17], [0, 1, 8, 17])])
def impl_schedule.B13 : List Nat := [0, 0, 0, 4, 14, 30, 0, 126, 0, 0, 512, 1792, 3840, 8190, 0, 32766, 65534, 131071, 262143]
theorem impl_schedule.tab13 : rtab .any (opsOf Try.f19 13) = impl_schedule.T13 := by kernel_rfl
theorem impl_schedule.bits13 : waitsOk impl_schedule.T13.2 impl_schedule.B13 = true := by kernel_rfl
set_option maxHeartbeats 8000000 in
set_option maxRecDepth 100000 in
theorem impl_schedule.calls (k : Nat) (a0 : ByteArray) (r : List Int) (w : World) (h : impl_schedule.f k a0 = some r) :
  Calls Try.prog 19 #[.string a0] w fun e w' => ∃ v0_ : Value, e = .returned (v0_) ∧ Kd.R (Kd.int .u32) 25 w' w.heap.size (fun _ => True) v0_ r ∧ Below w.heap.size w w' := by
 have HB := aa_ (Below.refl w.heap.size w)
 have H : (impl_schedule.l0 k a0 (([] : List Int)) 0) = some r := h
 clear h
 obtain ⟨y113, hy113⟩ : ∃ y_ : List Int, y_ = (([] : List Int)) := ⟨_, rfl⟩
 replace H : (impl_schedule.l0 k a0 y113 0) = some r := rh_ hy113 H
 have Ny113 := aa_ hy113
 clear hy113
 have H' := aa_ H
 clear H
 go_enter Try.func19, Try.ntmps19
 go_wp2_with (first | ((with_reducible refine gD_ 10 rfl ?_); refine Kd.R_lit (Kd.int .u32) _ 25 ?hg (N := 10) ?hd (xs := ([] : List Int)) (inner := []) (ok := fun _ => True) (okp := fun _ => True) ?hr ?hp (fun _ hk => hk) trivial (Below.refl _ _) (Nat.le_refl _) (by simp) ?_; (case hd => rfl); (case hg => rfl); (case hr => first | (go_simp; done) | (go_simp; rfl)); (case hp => exact (Reps.none _ _)); intro v114 w2 ho3 hb hg_ hnew_; clear hg_ hnew_; (first | rw [← Ny113.out] at ho3 | (simp only [Int.reduceToNat] at ho3; rw [← Ny113.out] at ho3)); have HO115 := aa_ (Kd.R_lower ho3 bls_); replace HB := hbs_ hb; clear hb ho3))
 go_loopg [3, 11] k (fun kq v3 v11 w' => ∃ (x3_1 : List Int) (x11_1 : Int), v11 = .int .i64 x11_1 ∧ Aside0 (impl_schedule.l0 kq a0 x3_1 x11_1 = some r) ∧ Aside0 (kq ≤ k) ∧ Aside0 (Kd.R (Kd.int .u32) 25 w' w.heap.size (fun _ => True) v3 x3_1) ∧ Aside0 (Below w.heap.size w w'))
 case atStart => exact ⟨(y113), (0), rf_, H', ⟨Nat.le_refl _⟩, ⟨rr_ HO115⟩, ⟨bl_⟩⟩
 case round =>
  clear H'
  try clear c1
  try clear p2
  obtain ⟨x3_1, x11_1, rfl, HA, HK1, HO_3, HB⟩ := hrel
  cases gk with
  | zero => exact absurd HA.out (by simp [impl_schedule.l0])
  | succ k1 =>
   have H := HA.out
   clear HA
   simp only [impl_schedule.l0] at H
   by_cases c4 : x11_1 < 16
   ·rw [if_pos c4] at H
    have c4b0 : decide (x11_1 < 16) = true := decide_eq_true c4
    clear c4
    obtain ⟨ji5, hji5⟩ : ∃ j_ : Int, (wrap64 (4 * x11_1)) = j_ := ⟨_, rfl⟩
    replace H : (if 0 ≤ (ji5) then (if (ji5) < (a0.size : Int) then (if 0 ≤ (wrap64 ((ji5) + 1)) then (if (wrap64 ((ji5) + 1)) < (a0.size : Int) then (if 0 ≤ (wrap64 ((ji5) + 2)) then (if (wrap64 ((ji5) + 2)) < (a0.size : Int) then (if 0 ≤ (wrap64 ((ji5) + 3)) then (if (wrap64 ((ji5) + 3)) < (a0.size : Int) then (if x3_1.length < 35184372088832 then (impl_schedule.l0 k1 a0 (x3_1 ++ [Go.bits .or .u32 (Go.bits .or .u32 (Go.bits .or .u32 ((((bt a0 (ji5)) % 4294967296) * 16777216) % 4294967296) ((((bt a0 (wrap64 ((ji5) + 1))) % 4294967296) * 65536) % 4294967296)) ((((bt a0 (wrap64 ((ji5) + 2))) % 4294967296) * 256) % 4294967296)) ((bt a0 (wrap64 ((ji5) + 3))) % 4294967296)]) (wrap64 (x11_1 + 1))) else (none)) else (none)) else (none)) else (none)) else (none)) else (none)) else (none)) else (none)) else (none)) = some r := by first | (rw [hji5] at H; exact H) | (simp only [hji5] at H ⊢; exact H)
    have hji5w : (IntKind.i64.wrap (4 * x11_1)) = ji5 := (i64_w _).trans hji5
    obtain ⟨c6b0, H⟩ := ifd_ H
    obtain ⟨c7b0, H⟩ := ifd_ H
    obtain ⟨ji9, hji9⟩ : ∃ j_ : Int, (wrap64 ((ji5) + 1)) = j_ := ⟨_, rfl⟩
    replace H : (if 0 ≤ (ji9) then (if (ji9) < (a0.size : Int) then (if 0 ≤ (wrap64 ((ji5) + 2)) then (if (wrap64 ((ji5) + 2)) < (a0.size : Int) then (if 0 ≤ (wrap64 ((ji5) + 3)) then (if (wrap64 ((ji5) + 3)) < (a0.size : Int) then (if x3_1.length < 35184372088832 then (impl_schedule.l0 k1 a0 (x3_1 ++ [Go.bits .or .u32 (Go.bits .or .u32 (Go.bits .or .u32 ((((bt a0 (ji5)) % 4294967296) * 16777216) % 4294967296) ((((bt a0 (ji9)) % 4294967296) * 65536) % 4294967296)) ((((bt a0 (wrap64 ((ji5) + 2))) % 4294967296) * 256) % 4294967296)) ((bt a0 (wrap64 ((ji5) + 3))) % 4294967296)]) (wrap64 (x11_1 + 1))) else (none)) else (none)) else (none)) else (none)) else (none)) else (none)) else (none)) = some r := by first | (rw [hji9] at H; exact H) | (simp only [hji9] at H ⊢; exact H)
    have hji9w : (IntKind.i64.wrap ((ji5) + 1)) = ji9 := (i64_w _).trans hji9
    obtain ⟨c10b0, H⟩ := ifd_ H
    obtain ⟨c11b0, H⟩ := ifd_ H
    obtain ⟨ji13, hji13⟩ : ∃ j_ : Int, (wrap64 ((ji5) + 2)) = j_ := ⟨_, rfl⟩
    replace H : (if 0 ≤ (ji13) then (if (ji13) < (a0.size : Int) then (if 0 ≤ (wrap64 ((ji5) + 3)) then (if (wrap64 ((ji5) + 3)) < (a0.size : Int) then (if x3_1.length < 35184372088832 then (impl_schedule.l0 k1 a0 (x3_1 ++ [Go.bits .or .u32 (Go.bits .or .u32 (Go.bits .or .u32 ((((bt a0 (ji5)) % 4294967296) * 16777216) % 4294967296) ((((bt a0 (ji9)) % 4294967296) * 65536) % 4294967296)) ((((bt a0 (ji13)) % 4294967296) * 256) % 4294967296)) ((bt a0 (wrap64 ((ji5) + 3))) % 4294967296)]) (wrap64 (x11_1 + 1))) else (none)) else (none)) else (none)) else (none)) else (none)) = some r := by first | (rw [hji13] at H; exact H) | (simp only [hji13] at H ⊢; exact H)
    have hji13w : (IntKind.i64.wrap ((ji5) + 2)) = ji13 := (i64_w _).trans hji13
    obtain ⟨c14b0, H⟩ := ifd_ H
    obtain ⟨c15b0, H⟩ := ifd_ H
    obtain ⟨ji17, hji17⟩ : ∃ j_ : Int, (wrap64 ((ji5) + 3)) = j_ := ⟨_, rfl⟩
    replace H : (if 0 ≤ (ji17) then (if (ji17) < (a0.size : Int) then (if x3_1.length < 35184372088832 then (impl_schedule.l0 k1 a0 (x3_1 ++ [Go.bits .or .u32 (Go.bits .or .u32 (Go.bits .or .u32 ((((bt a0 (ji5)) % 4294967296) * 16777216) % 4294967296) ((((bt a0 (ji9)) % 4294967296) * 65536) % 4294967296)) ((((bt a0 (ji13)) % 4294967296) * 256) % 4294967296)) ((bt a0 (ji17)) % 4294967296)]) (wrap64 (x11_1 + 1))) else (none)) else (none)) else (none)) = some r := by first | (rw [hji17] at H; exact H) | (simp only [hji17] at H ⊢; exact H)
    have hji17w : (IntKind.i64.wrap ((ji5) + 3)) = ji17 := (i64_w _).trans hji17
    obtain ⟨c18b0, H⟩ := ifd_ H
    obtain ⟨c19b0, H⟩ := ifd_ H
    obtain ⟨c21, H⟩ := ifn_ H
    have LMc21 := aa_ c21
    clear c21
    obtain ⟨y116, hy116⟩ : ∃ y_ : List Int, y_ = (x3_1 ++ [Go.bits .or .u32 (Go.bits .or .u32 (Go.bits .or .u32 ((((bt a0 (ji5)) % 4294967296) * 16777216) % 4294967296) ((((bt a0 (ji9)) % 4294967296) * 65536) % 4294967296)) ((((bt a0 (ji13)) % 4294967296) * 256) % 4294967296)) ((bt a0 (ji17)) % 4294967296)]) := ⟨_, rfl⟩
    replace H : (impl_schedule.l0 k1 a0 y116 (wrap64 (x11_1 + 1))) = some r := rh_ hy116 H
    have Ny116 := aa_ hy116
    clear hy116
    have H' := aa_ H
    clear H
    try go_wp2
    replace HO_3 := aa_ (Kd.R_drew HO_3.out)
    replace HB := aa_ (below_drew1 HB.out)
    have p8 : 0 ≤ ((ji5) : Int) := od_
    have q8 : (ji5) < (a0.size : Int) := od_
    have hx8 := bt_at a0 (ji5)
    replace p8 := eq_true p8
    replace q8 := eq_true q8
    have p12 : 0 ≤ ((ji9) : Int) := od_
    have q12 : (ji9) < (a0.size : Int) := od_
    have hx12 := bt_at a0 (ji9)
    replace p12 := eq_true p12
    replace q12 := eq_true q12
    have p16 : 0 ≤ ((ji13) : Int) := od_
    have q16 : (ji13) < (a0.size : Int) := od_
    have hx16 := bt_at a0 (ji13)
    replace p16 := eq_true p16
    replace q16 := eq_true q16
    have p20 : 0 ≤ ((ji17) : Int) := od_
    have q20 : (ji17) < (a0.size : Int) := od_
    have hx20 := bt_at a0 (ji17)
    replace p20 := eq_true p20
    replace q20 := eq_true q20
    refine start_ (n := 33) (S := fun w' => True) (ds := []) (ba_ 33 0) (by kernel_rfl) rfl rfl trivial (fun hHeld => ?_); refine with_tabW impl_schedule.tab5 impl_schedule.bits5 (fun HT_ HW_ => ?_)
    generalize wr.drew = w22 at HO_3 HB hHeld ⊢
    refine pureZ_ (i := 0) (some 14) (ba_ 33 1) (ao_ HT_) ?_
    refine pureZ_ (i := 1) (some 15) (ba_ 33 3) (ao_ HT_) ?_
    refine pureZ_ (i := 2) (some 16) (ba_ 33 7) (ao_ HT_) ?_
    refine pureZ_ (i := 3) (some 17) (ba_ 33 15) (ao_ HT_) ?_
    refine pureZ_ (i := 7) (some 21) (ba_ 33 143) (ao_ HT_) ?_
    refine pureZ_ (i := 8) (some 22) (ba_ 33 399) (ao_ HT_) ?_
    refine pureZ_ (i := 9) (some 23) (ba_ 33 911) (ao_ HT_) ?_
    refine pureZ_ (i := 10) (some 24) (ba_ 33 1935) (ao_ HT_) ?_
    refine pureZ_ (i := 15) (some 29) (ba_ 33 34703) (ao_ HT_) ?_
    refine pureZ_ (i := 16) (some 30) (ba_ 33 100239) (ao_ HT_) ?_
    refine pureZ_ (i := 17) (some 31) (ba_ 33 231311) (ao_ HT_) ?_
    refine pureZ_ (i := 18) (some 32) (ba_ 33 493455) (ao_ HT_) ?_
    refine pureZ_ (i := 23) (some 37) (ba_ 33 8882063) (ao_ HT_) ?_
    refine pureZ_ (i := 24) (some 38) (ba_ 33 25659279) (ao_ HT_) ?_
    refine pureZ_ (i := 25) (some 39) (ba_ 33 59213711) (ao_ HT_) ?_
    refine pureZ_ (i := 26) (some 40) (ba_ 33 126322575) (ao_ HT_) ?_
    refine take_ (i := 4) (N := some 18) (v := ?_) (a' := ?_) (ba_ 33 126322591) rfl rfl (take_ofW HT_.out HW_.out (by kernel_rfl)) (fun _ _ _ h => h) (Or.inl ⟨by rfl, ?_⟩) hHeld ?_ ?_
    rotate_left
    ·intro w' _
     go_simp
     with_reducible rfl
    rotate_left
    ·simp only [Act.put, List.setIfInBounds_toArray, List.set_cons_zero, List.set_cons_succ, i64_w, i32_w]
     rfl
    refine pureZ_ (i := 5) (some 19) (ba_ 33 126322623) (ao_ HT_) ?_
    refine pureZ_ (i := 6) (some 20) (ba_ 33 126322687) (ao_ HT_) ?_
    refine take_ (i := 11) (N := some 25) (v := ?_) (a' := ?_) (ba_ 33 126324735) rfl rfl (take_ofW HT_.out HW_.out (by kernel_rfl)) (fun _ _ _ h => h) (Or.inl ⟨by rfl, ?_⟩) hHeld ?_ ?_
    rotate_left
    ·intro w' _
     go_simp
     with_reducible rfl
    rotate_left
    ·simp only [Act.put, List.setIfInBounds_toArray, List.set_cons_zero, List.set_cons_succ, i64_w, i32_w]
     rfl
    refine pureZ_ (i := 12) (some 26) (ba_ 33 126328831) (ao_ HT_) ?_
    refine pureZ_ (i := 13) (some 27) (ba_ 33 126337023) (ao_ HT_) ?_
    refine pureZ_ (i := 14) (some 28) (ba_ 33 126353407) (ao_ HT_) ?_
    refine take_ (i := 19) (N := some 33) (v := ?_) (a' := ?_) (ba_ 33 126877695) rfl rfl (take_ofW HT_.out HW_.out (by kernel_rfl)) (fun _ _ _ h => h) (Or.inl ⟨by rfl, ?_⟩) hHeld ?_ ?_
    rotate_left
    ·intro w' _
     go_simp
     with_reducible rfl
    rotate_left
    ·simp only [Act.put, List.setIfInBounds_toArray, List.set_cons_zero, List.set_cons_succ, i64_w, i32_w]
     rfl
    refine pureZ_ (i := 20) (some 34) (ba_ 33 127926271) (ao_ HT_) ?_
    refine pureZ_ (i := 21) (some 35) (ba_ 33 130023423) (ao_ HT_) ?_
    refine pureZ_ (i := 22) (some 36) (ba_ 33 134217727) (ao_ HT_) ?_
    refine take_ (i := 27) (N := some 41) (v := ?_) (a' := ?_) (ba_ 33 268435455) rfl rfl (take_ofW HT_.out HW_.out (by kernel_rfl)) (fun _ _ _ h => h) (Or.inl ⟨by rfl, ?_⟩) hHeld ?_ ?_
    rotate_left
    ·intro w' _
     go_simp
     with_reducible rfl
    rotate_left
    ·simp only [Act.put, List.setIfInBounds_toArray, List.set_cons_zero, List.set_cons_succ, i64_w, i32_w]
     rfl
    refine pureZ_ (i := 28) (some 42) (ba_ 33 536870911) (ao_ HT_) ?_
    refine pureZ_ (i := 29) (some 43) (ba_ 33 1073741823) (ao_ HT_) ?_
    refine one_ (i := 30) (N := some 44) (ba_ 33 2147483647) rfl rfl (one_of HT_.out (by kernel_rfl)) (by decide) (fun K hK => ?_)
    refine value_ (w1 := ?_) (v := ?_) (by rfl) rfl ?_ ?_
    rotate_left 2
    ·go_simp
     constructor
     ·rfl
     ·rfl
    refine hK.out _ _ trivial (fun hHeld => ?_)
    clear hK K
    refine norm_ (a' := ?_) ?_ ?_
    rotate_left
    ·show Act.put _ (some 44) _ = _
     simp only [Act.put, List.setIfInBounds_toArray, List.set_cons_zero, List.set_cons_succ, i64_w, i32_w]
     rfl
    refine one_ (i := 31) (N := some 45) (ba_ 33 4294967295) rfl rfl (one_of HT_.out (by kernel_rfl)) (by decide) (fun K hK => ?_)
    refine Kd.R_append_step (Kd.int .u32) (w0 := w) w.heap.size (by rfl) (.tmp 14) (.tmp 44) 38 25 (.int .u32 0) 4 rfl Try.underlying38 info25 rfl (by decide) (by omega) u3 x3_1 (Go.bits .or .u32 (Go.bits .or .u32 (Go.bits .or .u32 ((((bt a0 (ji5)) % 4294967296) * 16777216) % 4294967296) ((((bt a0 (ji9)) % 4294967296) * 65536) % 4294967296)) ((((bt a0 (ji13)) % 4294967296) * 256) % 4294967296)) ((bt a0 (ji17)) % 4294967296)) [.int .u32 (Go.bits .or .u32 (Go.bits .or .u32 (Go.bits .or .u32 ((((bt a0 (ji5)) % 4294967296) * 16777216) % 4294967296) ((((bt a0 (ji9)) % 4294967296) * 65536) % 4294967296)) ((((bt a0 (ji13)) % 4294967296) * 256) % 4294967296)) ((bt a0 (ji17)) % 4294967296))] (fun _ => True) (fun _ => False) rfl rfl ?aP (fun _ hk => hk.elim) ?aF ?aO ?aB ?aS ?aL ?_
    (case aP => exact rfl)
    (case aB => exact bl_)
    (case aF => exact (fun _ _ => trivial))
    (case aO => exact (rr_ HO_3))
    (case aS => exact bls_)
    (case aL => have := LMc21.out; omega)
    intro v117 w23 ho hb hg hat
    rw [← Ny116.out] at ho
    replace HB := aa_ (hb)
    have HO118 := aa_ (ho)
    clear HO_3
    clear ho hb hg hat
    refine hK.out _ _ trivial (fun hHeld => ?_)
    clear hK K
    refine norm_ (a' := ?_) ?_ ?_
    rotate_left
    ·show Act.put _ (some 45) _ = _
     simp only [Act.put, List.setIfInBounds_toArray, List.set_cons_zero, List.set_cons_succ, i64_w, i32_w]
     rfl
    refine pureZ_ (i := 32) (some 3) (ba_ 33 8589934591) (ao_ HT_) ?_
    refine done_ (done_of HT_.out (by kernel_rfl)) ?_
    try go_wp2
    go_roundg k1
    case measure => have := HK1.out; omega
    case rel => exact ⟨(y116), (wrap64 (x11_1 + 1)), rf_, H', ⟨by have := HK1.out; omega⟩, ⟨rr_ HO118⟩, ⟨bl_⟩⟩
   ·rw [if_neg c4] at H
    have c4b0 : decide (x11_1 < 16) = false := decide_eq_false c4
    clear c4
    have H' := aa_ H
    clear H
    go_wp2
    go_loopg [3, 5] k1 (fun kq v3 v5 w' => ∃ (x3_2 : List Int) (x5_2 : Int), v5 = .int .i64 x5_2 ∧ Aside0 (impl_schedule.l1 kq x3_2 x5_2 = some r) ∧ Aside0 (kq ≤ k1) ∧ Aside0 (Kd.R (Kd.int .u32) 25 w' w.heap.size (fun _ => True) v3 x3_2) ∧ Aside0 (Below w.heap.size w w'))
    case atStart => exact ⟨(x3_1), (16), rf_, H', ⟨Nat.le_refl _⟩, ⟨rr_ HO_3⟩, ⟨bl_⟩⟩
    case round =>
     clear H'
     try clear c1
     try clear p1
     try clear q1
     try clear hx1
     try clear c2
     try clear p2
     try clear q2
     try clear hx2
     try clear c4
     try clear c4b0
     try clear c6
     try clear c6b0
     try clear p6
     try clear c7
     try clear c7b0
     try clear p8
     try clear q8
     try clear hx8
     try clear c10
     try clear c10b0
     try clear c11
     try clear c11b0
     try clear p12
     try clear q12
     try clear hx12
     try clear c14
     try clear c14b0
     try clear c15
     try clear c15b0
     try clear p16
     try clear q16
     try clear hx16
     try clear c18
     try clear c18b0
     try clear c19
     try clear c19b0
     try clear p20
     try clear q20
     try clear hx20
     try clear c21
     try clear p12
     try clear p16
     try clear p2
     try clear p20
     try clear p8
     try clear q12
     try clear q16
     try clear q20
     try clear q8
     obtain ⟨x3_2, x5_2, rfl, HA, HK2, HO_3, HB⟩ := hrel
     cases gk with
     | zero => exact absurd HA.out (by simp [impl_schedule.l1])
     | succ k2 =>
      have H := HA.out
      clear HA
      simp only [impl_schedule.l1] at H
      by_cases c24 : x5_2 < 64
      ·rw [if_pos c24] at H
       have c24b0 : decide (x5_2 < 64) = true := decide_eq_true c24
       clear c24
       obtain ⟨ji25, hji25⟩ : ∃ j_ : Int, (wrap64 (x5_2 - 15)) = j_ := ⟨_, rfl⟩
       replace H : (if 0 ≤ (ji25) then (if (ji25) < (x3_2.length : Int) then (if 0 ≤ (wrap64 (x5_2 - 2)) then (if (wrap64 (x5_2 - 2)) < (x3_2.length : Int) then ((impl_turn.f (rd x3_2 (ji25)) 7).bind fun t121 => ((impl_turn.f (rd x3_2 (ji25)) 18).bind fun t122 => ((impl_turn.f (rd x3_2 (wrap64 (x5_2 - 2))) 17).bind fun t123 => ((impl_turn.f (rd x3_2 (wrap64 (x5_2 - 2))) 19).bind fun t124 => (if 0 ≤ (wrap64 (x5_2 - 16)) then (if (wrap64 (x5_2 - 16)) < (x3_2.length : Int) then (if 0 ≤ (wrap64 (x5_2 - 7)) then (if (wrap64 (x5_2 - 7)) < (x3_2.length : Int) then (if x3_2.length < 35184372088832 then (impl_schedule.l1 k2 (x3_2 ++ [((((((rd x3_2 (wrap64 (x5_2 - 16))) + (Go.bits .xor .u32 (Go.bits .xor .u32 t121 t122) ((rd x3_2 (ji25)) / 8))) % 4294967296) + (rd x3_2 (wrap64 (x5_2 - 7)))) % 4294967296) + (Go.bits .xor .u32 (Go.bits .xor .u32 t123 t124) ((rd x3_2 (wrap64 (x5_2 - 2))) / 1024))) % 4294967296]) (wrap64 (x5_2 + 1))) else (none)) else (none)) else (none)) else (none)) else (none)))))) else (none)) else (none)) else (none)) else (none)) = some r := by first | (rw [hji25] at H; exact H) | (simp only [hji25] at H ⊢; exact H)
       have hji25w : (IntKind.i64.wrap (x5_2 - 15)) = ji25 := (i64_w _).trans hji25
       obtain ⟨c26b0, H⟩ := ifd_ H
       obtain ⟨c27b0, H⟩ := ifd_ H
       obtain ⟨ji28, hji28⟩ : ∃ j_ : Int, (wrap64 (x5_2 - 2)) = j_ := ⟨_, rfl⟩
       replace H : (if 0 ≤ (ji28) then (if (ji28) < (x3_2.length : Int) then ((impl_turn.f (rd x3_2 (ji25)) 7).bind fun t121 => ((impl_turn.f (rd x3_2 (ji25)) 18).bind fun t122 => ((impl_turn.f (rd x3_2 (ji28)) 17).bind fun t123 => ((impl_turn.f (rd x3_2 (ji28)) 19).bind fun t124 => (if 0 ≤ (wrap64 (x5_2 - 16)) then (if (wrap64 (x5_2 - 16)) < (x3_2.length : Int) then (if 0 ≤ (wrap64 (x5_2 - 7)) then (if (wrap64 (x5_2 - 7)) < (x3_2.length : Int) then (if x3_2.length < 35184372088832 then (impl_schedule.l1 k2 (x3_2 ++ [((((((rd x3_2 (wrap64 (x5_2 - 16))) + (Go.bits .xor .u32 (Go.bits .xor .u32 t121 t122) ((rd x3_2 (ji25)) / 8))) % 4294967296) + (rd x3_2 (wrap64 (x5_2 - 7)))) % 4294967296) + (Go.bits .xor .u32 (Go.bits .xor .u32 t123 t124) ((rd x3_2 (ji28)) / 1024))) % 4294967296]) (wrap64 (x5_2 + 1))) else (none)) else (none)) else (none)) else (none)) else (none)))))) else (none)) else (none)) = some r := by first | (rw [hji28] at H; exact H) | (simp only [hji28] at H ⊢; exact H)
       have hji28w : (IntKind.i64.wrap (x5_2 - 2)) = ji28 := (i64_w _).trans hji28
       obtain ⟨c29b0, H⟩ := ifd_ H
       obtain ⟨c30b0, H⟩ := ifd_ H
       obtain ⟨t121, A31, H⟩ := bindE_ H
       obtain ⟨t122, A32, H⟩ := bindE_ H
       obtain ⟨t123, A33, H⟩ := bindE_ H
       obtain ⟨t124, A34, H⟩ := bindE_ H
       obtain ⟨ji35, hji35⟩ : ∃ j_ : Int, (wrap64 (x5_2 - 16)) = j_ := ⟨_, rfl⟩
       replace H : (if 0 ≤ (ji35) then (if (ji35) < (x3_2.length : Int) then (if 0 ≤ (wrap64 (x5_2 - 7)) then (if (wrap64 (x5_2 - 7)) < (x3_2.length : Int) then (if x3_2.length < 35184372088832 then (impl_schedule.l1 k2 (x3_2 ++ [((((((rd x3_2 (ji35)) + (Go.bits .xor .u32 (Go.bits .xor .u32 t121 t122) ((rd x3_2 (ji25)) / 8))) % 4294967296) + (rd x3_2 (wrap64 (x5_2 - 7)))) % 4294967296) + (Go.bits .xor .u32 (Go.bits .xor .u32 t123 t124) ((rd x3_2 (ji28)) / 1024))) % 4294967296]) (wrap64 (x5_2 + 1))) else (none)) else (none)) else (none)) else (none)) else (none)) = some r := by first | (rw [hji35] at H; exact H) | (simp only [hji35] at H ⊢; exact H)
       (try rw [hji35] at A31)
       (try rw [hji35] at A32)
       (try rw [hji35] at A33)
       (try rw [hji35] at A34)
       have hji35w : (IntKind.i64.wrap (x5_2 - 16)) = ji35 := (i64_w _).trans hji35
       obtain ⟨c36b0, H⟩ := ifd_ H
       obtain ⟨c37b0, H⟩ := ifd_ H
       obtain ⟨ji38, hji38⟩ : ∃ j_ : Int, (wrap64 (x5_2 - 7)) = j_ := ⟨_, rfl⟩
       replace H : (if 0 ≤ (ji38) then (if (ji38) < (x3_2.length : Int) then (if x3_2.length < 35184372088832 then (impl_schedule.l1 k2 (x3_2 ++ [((((((rd x3_2 (ji35)) + (Go.bits .xor .u32 (Go.bits .xor .u32 t121 t122) ((rd x3_2 (ji25)) / 8))) % 4294967296) + (rd x3_2 (ji38))) % 4294967296) + (Go.bits .xor .u32 (Go.bits .xor .u32 t123 t124) ((rd x3_2 (ji28)) / 1024))) % 4294967296]) (wrap64 (x5_2 + 1))) else (none)) else (none)) else (none)) = some r := by first | (rw [hji38] at H; exact H) | (simp only [hji38] at H ⊢; exact H)
       (try rw [hji38] at A31)
       (try rw [hji38] at A32)
       (try rw [hji38] at A33)
       (try rw [hji38] at A34)
       have hji38w : (IntKind.i64.wrap (x5_2 - 7)) = ji38 := (i64_w _).trans hji38
       obtain ⟨c39b0, H⟩ := ifd_ H
       obtain ⟨c40b0, H⟩ := ifd_ H
       obtain ⟨c41, H⟩ := ifn_ H
       have LMc41 := aa_ c41
       clear c41
       obtain ⟨y127, hy127⟩ : ∃ y_ : List Int, y_ = (x3_2 ++ [((((((rd x3_2 (ji35)) + (Go.bits .xor .u32 (Go.bits .xor .u32 t121 t122) ((rd x3_2 (ji25)) / 8))) % 4294967296) + (rd x3_2 (ji38))) % 4294967296) + (Go.bits .xor .u32 (Go.bits .xor .u32 t123 t124) ((rd x3_2 (ji28)) / 1024))) % 4294967296]) := ⟨_, rfl⟩
       replace H : (impl_schedule.l1 k2 y127 (wrap64 (x5_2 + 1))) = some r := rh_ hy127 H
       have Ny127 := aa_ hy127
       clear hy127
       have H' := aa_ H
       clear H
       try go_wp2
       replace HO_3 := aa_ (Kd.R_drew HO_3.out)
       replace HB := aa_ (below_drew1 HB.out)
       obtain ⟨Ao43, co43, eo43⟩ := Kd.R_slice HO_3.out
       (first | subst eo43 | (injection eo43 with f1_ f2_ f3_; have f4_ := f1_.symm; have f5_ := f3_.symm; clear f1_ f2_ f3_; subst f4_; subst f5_))
       have p119 : 0 ≤ ((ji25) : Int) := od_
       have q119 : (ji25) < (x3_2.length : Int) := od_
       obtain ⟨ad119, e119, hx119_0⟩ := Kd.at_int (Kd.R_reads' HO_3.out).2.2 (ji25) p119 q119
       cases e119
       replace p119 := eq_true p119
       replace q119 := eq_true q119
       have p120 : 0 ≤ ((ji28) : Int) := od_
       have q120 : (ji28) < (x3_2.length : Int) := od_
       obtain ⟨ad120, e120, hx120_0⟩ := Kd.at_int (Kd.R_reads' HO_3.out).2.2 (ji28) p120 q120
       obtain rfl : ad119 = ad120 := (by injection e120)
       replace p120 := eq_true p120
       replace q120 := eq_true q120
       refine start_ (n := 12) (S := fun w' => w'.cell? (ad119.add ((ji25)).toNat) = some (.int .u32 (rd x3_2 (ji25))) ∧ w'.cell? (ad119.add ((ji28)).toNat) = some (.int .u32 (rd x3_2 (ji28)))) (ds := []) (ba_ 12 0) (by kernel_rfl) rfl rfl ⟨hx119_0, hx120_0⟩ (fun hHeld => ?_); refine with_tabW impl_schedule.tab10 impl_schedule.bits10 (fun HT_ HW_ => ?_)
       generalize wr.drew = w42 at HO_3 HB hx119_0 hx120_0 hHeld ⊢
       refine pureZ_ (i := 0) (some 51) (ba_ 12 1) (ao_ HT_) ?_
       refine pureZ_ (i := 1) (some 52) (ba_ 12 3) (ao_ HT_) ?_
       refine pureZ_ (i := 2) (some 53) (ba_ 12 7) (ao_ HT_) ?_
       refine pureZ_ (i := 3) (some 54) (ba_ 12 15) (ao_ HT_) ?_
       refine pureZ_ (i := 5) (some 56) (ba_ 12 47) (ao_ HT_) ?_
       refine pureZ_ (i := 6) (some 57) (ba_ 12 111) (ao_ HT_) ?_
       refine pureZ_ (i := 7) (some 58) (ba_ 12 239) (ao_ HT_) ?_
       refine pureZ_ (i := 8) (some 59) (ba_ 12 495) (ao_ HT_) ?_
       refine takeZ_ (i := 4) (some 55) (ba_ 12 511) (take_ofW HT_.out HW_.out (by kernel_rfl)) hHeld ?_
       refine pureZ_ (i := 10) (some 6) (ba_ 12 1535) (ao_ HT_) ?_
       refine takeZ_ (i := 9) (some 60) (ba_ 12 2047) (take_ofW HT_.out HW_.out (by kernel_rfl)) hHeld ?_
       refine pureZ_ (i := 11) (some 7) (ba_ 12 4095) (ao_ HT_) ?_
       refine done_ (done_of HT_.out (by kernel_rfl)) ?_
       try go_wp2_with (first | ((with_reducible refine gC_ 20 rfl ?_); refine goesL_ (some 62) rfl rfl Try.func20 (by kernel_rfl) rfl #[.int .u32 (rd x3_2 (ji25)), .int .i64 7] rfl (by (try simp only [List.map_toArray, List.map_cons, List.map_nil]); first | done | (simp only [hji25]; rfl) | rfl | (simp only [List.length_drop, List.length_take]; rfl)) ?_; (with_reducible refine (impl_turn.calls (rd x3_2 (ji25)) 7 t121 _ A31.out).mono ?_); rintro e w' ⟨rfl, ⟨nd, rfl⟩⟩; refine ⟨_, rfl, ?_⟩) | ((with_reducible refine gC_ 20 rfl ?_); refine goesL_ (some 64) rfl rfl Try.func20 (by kernel_rfl) rfl #[.int .u32 (rd x3_2 (ji25)), .int .i64 18] rfl (by (try simp only [List.map_toArray, List.map_cons, List.map_nil]); first | done | (simp only [hji25]; rfl) | rfl | (simp only [List.length_drop, List.length_take]; rfl)) ?_; (with_reducible refine (impl_turn.calls (rd x3_2 (ji25)) 18 t122 _ A32.out).mono ?_); rintro e w' ⟨rfl, ⟨nd, rfl⟩⟩; refine ⟨_, rfl, ?_⟩) | ((with_reducible refine gC_ 20 rfl ?_); refine goesL_ (some 70) rfl rfl Try.func20 (by kernel_rfl) rfl #[.int .u32 (rd x3_2 (ji28)), .int .i64 17] rfl (by (try simp only [List.map_toArray, List.map_cons, List.map_nil]); first | done | (simp only [hji28]; rfl) | rfl | (simp only [List.length_drop, List.length_take]; rfl)) ?_; (with_reducible refine (impl_turn.calls (rd x3_2 (ji28)) 17 t123 _ A33.out).mono ?_); rintro e w' ⟨rfl, ⟨nd, rfl⟩⟩; refine ⟨_, rfl, ?_⟩) | ((with_reducible refine gC_ 20 rfl ?_); refine goesL_ (some 72) rfl rfl Try.func20 (by kernel_rfl) rfl #[.int .u32 (rd x3_2 (ji28)), .int .i64 19] rfl (by (try simp only [List.map_toArray, List.map_cons, List.map_nil]); first | done | (simp only [hji28]; rfl) | rfl | (simp only [List.length_drop, List.length_take]; rfl)) ?_; (with_reducible refine (impl_turn.calls (rd x3_2 (ji28)) 19 t124 _ A34.out).mono ?_); rintro e w' ⟨rfl, ⟨nd, rfl⟩⟩; refine ⟨_, rfl, ?_⟩))
       (try (rw [drewN_self w42]; generalize hq_ : World.drewN w42 _ = w42; have n0_ : Aside0 (Kd.R (Kd.int .u32) 25 w42 w.heap.size (fun _ => True) (.slice (some ad119) x3_2.length co43) x3_2) := ⟨by rw [← hq_]; exact (rr_ HO_3)⟩; have n1_ : Aside0 (Below w.heap.size w w42) := ⟨by rw [← hq_]; exact bl_⟩; clear HO_3 HB hq_; have HO_3 := n0_; have HB := n1_; clear n0_ n1_))
       replace HO_3 := aa_ (Kd.R_drew HO_3.out)
       replace HB := aa_ (below_drew1 HB.out)
       have p125 : 0 ≤ ((ji35) : Int) := od_
       have q125 : (ji35) < (x3_2.length : Int) := od_
       obtain ⟨ad125, e125, hx125_0⟩ := Kd.at_int (Kd.R_reads' HO_3.out).2.2 (ji35) p125 q125
       obtain rfl : ad119 = ad125 := (by injection e125)
       replace p125 := eq_true p125
       replace q125 := eq_true q125
       have p126 : 0 ≤ ((ji38) : Int) := od_
       have q126 : (ji38) < (x3_2.length : Int) := od_
       obtain ⟨ad126, e126, hx126_0⟩ := Kd.at_int (Kd.R_reads' HO_3.out).2.2 (ji38) p126 q126
       obtain rfl : ad119 = ad126 := (by injection e126)
       replace p126 := eq_true p126
       replace q126 := eq_true q126
       refine start_ (n := 19) (S := fun w' => w'.cell? (ad119.add ((ji35)).toNat) = some (.int .u32 (rd x3_2 (ji35))) ∧ w'.cell? (ad119.add ((ji38)).toNat) = some (.int .u32 (rd x3_2 (ji38)))) (ds := [16, 17]) (ba_ 19 0) (by kernel_rfl) rfl rfl ⟨hx125_0, hx126_0⟩ (fun hHeld => ?_); refine with_tabW impl_schedule.tab13 impl_schedule.bits13 (fun HT_ HW_ => ?_)
       generalize w42.drew = w44 at HO_3 HB hx125_0 hx126_0 hHeld ⊢
       refine pureZ_ (i := 0) (some 77) (ba_ 19 1) (ao_ HT_) ?_
       refine pureZ_ (i := 1) (some 78) (ba_ 19 3) (ao_ HT_) ?_
       refine pureZ_ (i := 2) (some 79) (ba_ 19 7) (ao_ HT_) ?_
       refine pureZ_ (i := 3) (some 80) (ba_ 19 15) (ao_ HT_) ?_
       refine pureZ_ (i := 4) (some 81) (ba_ 19 31) (ao_ HT_) ?_
       refine pureZ_ (i := 6) (some 83) (ba_ 19 95) (ao_ HT_) ?_
       refine pureZ_ (i := 8) (some 85) (ba_ 19 351) (ao_ HT_) ?_
       refine pureZ_ (i := 9) (some 86) (ba_ 19 863) (ao_ HT_) ?_
       refine pureZ_ (i := 10) (some 87) (ba_ 19 1887) (ao_ HT_) ?_
       refine pureZ_ (i := 11) (some 88) (ba_ 19 3935) (ao_ HT_) ?_
       refine pureZ_ (i := 14) (some 91) (ba_ 19 20319) (ao_ HT_) ?_
       refine takeZ_ (i := 5) (some 82) (ba_ 19 20351) (take_ofW HT_.out HW_.out (by kernel_rfl)) hHeld ?_
       refine pureZ_ (i := 7) (some 84) (ba_ 19 20479) (ao_ HT_) ?_
       refine takeZ_ (i := 12) (some 89) (ba_ 19 24575) (take_ofW HT_.out HW_.out (by kernel_rfl)) hHeld ?_
       refine pureZ_ (i := 13) (some 90) (ba_ 19 32767) (ao_ HT_) ?_
       refine pureZ_ (i := 15) (some 92) (ba_ 19 65535) (ao_ HT_) ?_
       refine last_ (i := 16) (N := some 93) (ba_ 19 131071) rfl rfl (one_of HT_.out (by kernel_rfl)) (by decide) (fun K hK => ?_)
       refine value_ (w1 := ?_) (v := ?_) (by rfl) rfl ?_ ?_
       rotate_left 2
       ·go_simp
        constructor
        ·rfl
        ·rfl
       refine hK.out _ _ ?_
       clear hK K
       refine norm_ (a' := ?_) ?_ ?_
       rotate_left
       ·show Act.put _ (some 93) _ = _
        simp only [Act.put, List.setIfInBounds_toArray, List.set_cons_zero, List.set_cons_succ, i64_w, i32_w]
        rfl
       refine last_ (i := 17) (N := some 94) (ba_ 19 262143) rfl rfl (one_of HT_.out (by kernel_rfl)) (by decide) (fun K hK => ?_)
       refine Kd.R_append_step (Kd.int .u32) (w0 := w) w.heap.size (by rfl) (.tmp 77) (.tmp 93) 38 25 (.int .u32 0) 4 rfl Try.underlying38 info25 rfl (by decide) (by omega) (.slice (some ad119) x3_2.length co43) x3_2 (((((((rd x3_2 (ji35)) + (Go.bits .xor .u32 (Go.bits .xor .u32 t121 t122) ((rd x3_2 (ji25)) / 8))) % 4294967296) + (rd x3_2 (ji38))) % 4294967296) + (Go.bits .xor .u32 (Go.bits .xor .u32 t123 t124) ((rd x3_2 (ji28)) / 1024))) % 4294967296) [.int .u32 (((((((rd x3_2 (ji35)) + (Go.bits .xor .u32 (Go.bits .xor .u32 t121 t122) ((rd x3_2 (ji25)) / 8))) % 4294967296) + (rd x3_2 (ji38))) % 4294967296) + (Go.bits .xor .u32 (Go.bits .xor .u32 t123 t124) ((rd x3_2 (ji28)) / 1024))) % 4294967296)] (fun _ => True) (fun _ => False) rfl rfl ?aP (fun _ hk => hk.elim) ?aF ?aO ?aB ?aS ?aL ?_
       (case aP => exact rfl)
       (case aB => exact bl_)
       (case aF => exact (fun _ _ => trivial))
       (case aO => exact (rr_ HO_3))
       (case aS => exact bls_)
       (case aL => have := LMc41.out; omega)
       intro v128 w45 ho hb hg hat
       rw [← Ny127.out] at ho
       replace HB := aa_ (hb)
       have HO129 := aa_ (ho)
       clear HO_3
       clear ho hb hg hat
       refine hK.out _ _ ?_
       clear hK K
       refine norm_ (a' := ?_) ?_ ?_
       rotate_left
       ·show Act.put _ (some 94) _ = _
        simp only [Act.put, List.setIfInBounds_toArray, List.set_cons_zero, List.set_cons_succ, i64_w, i32_w]
        rfl
       refine pureZ_ (i := 18) (some 3) (ba_ 19 524287) (ao_ HT_) ?_
       refine done_ (done_of HT_.out (by kernel_rfl)) ?_
       try go_wp2
       go_roundg k2
       case measure => have := HK1.out; have := HK2.out; omega
       case rel => exact ⟨(y127), (wrap64 (x5_2 + 1)), rf_, H', ⟨by have := HK1.out; have := HK2.out; omega⟩, ⟨rr_ HO129⟩, ⟨bl_⟩⟩
      ·rw [if_neg c24] at H
       have c24b0 : decide (x5_2 < 64) = false := decide_eq_false c24
       clear c24
       obtain rfl := Option.some.inj H
       go_wp2
       go_ret
       exact ⟨_, eq_, by (with_reducible repeat (first | apply Kd.R_alloc | apply Kd.R_drewN | apply Kd.R_drew)); exact HO_3.out, bl_⟩
end Go.Proofs.Ytingghknjicpjaa.PB
