import Derived.Test.YtingghknjicpjaaKPPBx2
-- printed by wip/tools
namespace Go.Proofs.Ytingghknjicpjaa.PB
open Go.RowKit Go.Proofs.YtingghknjicpjaaW.PrintWords Go.Proofs.YtingghknjicpjaaW.PrintLast Go.Proofs.YtingghknjicpjaaW.PrintMore
attribute [local go_sem] max2_int min2_int max_two min_two max_three min_three max_four min_four
set_option linter.unusedVariables false
set_option linter.unusedSimpArgs false
mutual
def impl_Digest.l0 : Nat → List Int → ByteArray → Int → Option (ByteArray)
 | 0, _, _, _ => none
 | k + 1, x3, x4, x5 => if x5 < (x4.size : Int) then (if 0 ≤ x5 then (if x5 ≤ (wrap64 (x5 + 64)) then (if (wrap64 (x5 + 64)) ≤ (x4.size : Int) then ((impl_ShaBlock.f k x3 (x4.extract (x5 : Int).toNat ((wrap64 (x5 + 64)) : Int).toNat)).bind fun t182 => (impl_Digest.l0 k t182 x4 (wrap64 (x5 + 64)))) else (none)) else (none)) else (none)) else (impl_Digest.l1 k (([] : List Int)) x3 (x3.length : Int) 0)
def impl_Digest.l1 : Nat → List Int → List Int → Int → Int → Option (ByteArray)
 | 0, _, _, _, _ => none
 | k + 1, x6, x26, x27, x28 => if x28 < x27 then (if 0 ≤ x28 then (if x28 < (x26.length : Int) then ((some (([((rd x26 x28) / 16777216) % 256, ((rd x26 x28) / 65536) % 256, ((rd x26 x28) / 256) % 256, (rd x26 x28) % 256] : List Int) : List Int)).bind fun y189 => (if x6.length + y189.length < 140737488355328 then (impl_Digest.l1 k (x6 ++ y189) x26 x27 (wrap64 (x28 + 1))) else (none))) else (none)) else (none)) else (some (strOfNums x6))
end
def impl_Digest.f (k : Nat) (a0 : ByteArray) : Option (ByteArray) := (impl_ShaStart.f).bind fun t178 => ((impl_PadText.f k a0).bind fun t181 => (impl_Digest.l0 k t178 t181 0))
set_option maxHeartbeats 8000000 in
set_option maxRecDepth 100000 in
theorem impl_Digest.calls (k : Nat) (a0 : ByteArray) (r : ByteArray) (w : World) (h : impl_Digest.f k a0 = some r) :
  Calls Try.prog 7 #[.string a0] w fun e w' => e = .returned (.string r) ∧ Below w.heap.size w w' := by
 have HB := aa_ (Below.refl w.heap.size w)
 have H : ((impl_ShaStart.f).bind fun t178 => ((impl_PadText.f k a0).bind fun t181 => (impl_Digest.l0 k t178 t181 0))) = some r := h
 clear h
 obtain ⟨t178, A2, H⟩ := bindE_ H
 obtain ⟨t181, A3, H⟩ := bindE_ H
 have H' := aa_ H
 clear H
 go_enter Try.func7, Try.ntmps7
 go_wp2_with (first | ((with_reducible refine gC_ 12 rfl ?_); refine goesC_ (some 9) Try.func12 #[] ?_; (with_reducible refine (impl_ShaStart.calls  t178 _ A2.out).mono ?_); rintro e w4 ⟨v179, rfl, ho0, hb⟩; refine ⟨_, rfl, ?_⟩; have HO180 := aa_ (Kd.R_lower ho0 bls_); replace HB := hbs_ hb; (try clear hb ho0)) | ((with_reducible refine gC_ 13 rfl ?_); refine goesC_ (some 11) Try.func13 #[.string a0] ?_; (with_reducible refine (impl_PadText.calls k a0 t181 _ A3.out).mono ?_); rintro e w5 ⟨rfl, hb⟩; refine ⟨_, rfl, ?_⟩; replace HO180 := hob_ HO180 hb; replace HB := hbs_ hb; clear hb))
 go_loopg [3, 5] k (fun kq v3 v5 w' => ∃ (x3_1 : List Int) (x5_1 : Int), v5 = .int .i64 x5_1 ∧ Aside0 (impl_Digest.l0 kq x3_1 t181 x5_1 = some r) ∧ Aside0 (kq ≤ k) ∧ Aside0 (Kd.R (Kd.int .i64) 3 w' w.heap.size (fun _ => True) v3 x3_1) ∧ Aside0 (Below w.heap.size w w'))
 case atStart => exact ⟨(t178), (0), rf_, H', ⟨Nat.le_refl _⟩, ⟨rr_ HO180⟩, ⟨bl_⟩⟩
 case round =>
  clear H'
  try clear c1
  try clear p2
  obtain ⟨x3_1, x5_1, rfl, HA, HK1, HO_3, HB⟩ := hrel
  cases gk with
  | zero => exact absurd HA.out (by simp [impl_Digest.l0])
  | succ k1 =>
   have H := HA.out
   clear HA
   simp only [impl_Digest.l0] at H
   by_cases c6 : x5_1 < (t181.size : Int)
   ·rw [if_pos c6] at H
    have c6b0 : decide (x5_1 < (t181.size : Int)) = true := decide_eq_true c6
    clear c6
    obtain ⟨c7, H⟩ := ifn_ H
    have c7b0 := eq_true c7
    have c7b1 : decide (0 ≤ x5_1) = true := decide_eq_true c7
    clear c7
    obtain ⟨c8, H⟩ := ifn_ H
    have c8b0 := eq_true c8
    have c8b1 : decide (x5_1 ≤ (wrap64 (x5_1 + 64))) = true := decide_eq_true c8
    obtain ⟨c9, H⟩ := ifn_ H
    have c9b0 := eq_true c9
    have c9b1 : decide ((wrap64 (x5_1 + 64)) ≤ (t181.size : Int)) = true := decide_eq_true c9
    obtain ⟨t182, A10, H⟩ := bindE_ H
    have H' := aa_ H
    clear H
    obtain ⟨Ao11, co11, eo11⟩ := Kd.R_slice HO_3.out
    subst eo11
    go_wp2_with (first | ((with_reducible refine gC_ 14 rfl ?_); refine goesC_ (some 24) Try.func14 #[.slice Ao11 x3_1.length co11, .string (t181.extract (x5_1 : Int).toNat ((wrap64 (x5_1 + 64)) : Int).toNat)] ?_; (with_reducible refine (impl_ShaBlock.calls k1 _ _ x3_1 (t181.extract (x5_1 : Int).toNat ((wrap64 (x5_1 + 64)) : Int).toNat) t182 _ ?side1 ?side2 A10.out).mono ?_); (case side1 => repeat (first | exact (Kd.R_reads' HO_3.out).2.2 | (with_reducible refine Kd.C_alloc ?_ _) | (with_reducible refine Kd.C_drewN ?_ _) | (with_reducible refine Kd.C_drew ?_))); (case side2 => exact (Kd.R_reads' HO_3.out).2.1); rintro e w12 ⟨v183, rfl, ho0, hb⟩; refine ⟨_, rfl, ?_⟩; have HO184 := aa_ (Kd.R_lower (Kd.R_new' ho0 (Kd.R_lt (rr_ HO_3))) bls_); replace HO_3 := aa_ (Kd.R_elder' (rr_ HO_3) (Kd.R_base ho0) hb); replace HB := hbs_ hb; (try clear hb ho0)))
    go_roundg k1
    case measure => have := HK1.out; omega
    case rel => exact ⟨(t182), (wrap64 (x5_1 + 64)), rf_, H', ⟨by have := HK1.out; omega⟩, ⟨by (with_reducible repeat (first | apply Kd.R_alloc | apply Kd.R_drewN | apply Kd.R_drew)); exact Kd.R_mono HO184.out (fun _ hk => trivial)⟩, ⟨bl_⟩⟩
   ·rw [if_neg c6] at H
    have c6b0 : decide (x5_1 < (t181.size : Int)) = false := decide_eq_false c6
    clear c6
    obtain ⟨y185, hy185⟩ : ∃ y_ : List Int, y_ = (([] : List Int)) := ⟨_, rfl⟩
    replace H : (impl_Digest.l1 k1 y185 x3_1 (x3_1.length : Int) 0) = some r := rh_ hy185 H
    have Ny185 := aa_ hy185
    clear hy185
    have H' := aa_ H
    clear H
    go_wp2_with (first | ((with_reducible refine gD_ 25 rfl ?_); refine Kd.R_lit (Kd.int .u8) _ 5 ?hg (N := 25) ?hd (xs := ([] : List Int)) (inner := []) (ok := fun _ => True) (okp := fun _ => True) ?hr ?hp (fun _ hk => hk) trivial (Below.refl _ _) (Nat.le_refl _) (by simp) ?_; (case hd => rfl); (case hg => rfl); (case hr => first | (go_simp; done) | (go_simp; rfl)); (case hp => exact (Reps.none _ _)); intro v186 w13 ho14 hb hg_ hnew_; clear hg_ hnew_; (first | rw [← Ny185.out] at ho14 | (simp only [Int.reduceToNat] at ho14; rw [← Ny185.out] at ho14)); replace HO_3 := hob_ HO_3 hb; have HO187 := aa_ (Kd.R_lower ho14 bls_); replace HB := hbs_ hb; clear hb ho14; obtain ⟨Ao15, co15, eo15⟩ := Kd.R_slice HO_3.out; subst eo15))
    go_loopg [6, 28] k1 (fun kq v6 v28 w' => ∃ (x6_2 : List Int) (x28_2 : Int), v28 = .int .i64 x28_2 ∧ Aside0 (impl_Digest.l1 kq x6_2 x3_1 (x3_1.length : Int) x28_2 = some r) ∧ Aside0 (kq ≤ k1) ∧ Aside0 (Kd.R (Kd.int .u8) 5 w' w.heap.size (fun _ => True) v6 x6_2) ∧ Aside0 (Kd.R (Kd.int .i64) 3 w' w.heap.size (fun _ => True) (.slice Ao15 x3_1.length co15) x3_1) ∧ Aside0 (Below w.heap.size w w'))
    case atStart => exact ⟨(y185), (0), rf_, H', ⟨Nat.le_refl _⟩, ⟨rr_ HO187⟩, ⟨rr_ HO_3⟩, ⟨bl_⟩⟩
    case round =>
     clear H'
     try clear c1
     try clear p2
     try clear c6
     try clear c6b0
     try clear p6
     try clear c7
     try clear c7b0
     try clear c7b1
     try clear c8
     try clear c8b0
     try clear c8b1
     try clear c9
     try clear c9b0
     try clear c9b1
     try clear c12
     try clear c13
     try clear c14
     try clear p2
     obtain ⟨x6_2, x28_2, rfl, HA, HK2, HO_6, HO_26, HB⟩ := hrel
     cases gk with
     | zero => exact absurd HA.out (by simp [impl_Digest.l1])
     | succ k2 =>
      have H := HA.out
      clear HA
      simp only [impl_Digest.l1] at H
      by_cases c16 : x28_2 < (x3_1.length : Int)
      ·rw [if_pos c16] at H
       have c16b0 : decide (x28_2 < (x3_1.length : Int)) = true := decide_eq_true c16
       clear c16
       obtain ⟨c17b0, H⟩ := ifd_ H
       obtain ⟨c18b0, H⟩ := ifd_ H
       obtain ⟨y189, hy189⟩ : ∃ y_ : List Int, y_ = (([((rd x3_1 x28_2) / 16777216) % 256, ((rd x3_1 x28_2) / 65536) % 256, ((rd x3_1 x28_2) / 256) % 256, (rd x3_1 x28_2) % 256] : List Int)) := ⟨_, rfl⟩
       replace H : (if x6_2.length + y189.length < 140737488355328 then (impl_Digest.l1 k2 (x6_2 ++ y189) x3_1 (x3_1.length : Int) (wrap64 (x28_2 + 1))) else (none)) = some r := rh_ hy189 H
       have Ny189 := aa_ hy189
       clear hy189
       obtain ⟨c19, H⟩ := ifn_ H
       have LMc19 := aa_ c19
       clear c19
       obtain ⟨y192, hy192⟩ : ∃ y_ : List Int, y_ = (x6_2 ++ y189) := ⟨_, rfl⟩
       replace H : (impl_Digest.l1 k2 y192 x3_1 (x3_1.length : Int) (wrap64 (x28_2 + 1))) = some r := rh_ hy192 H
       have Ny192 := aa_ hy192
       clear hy192
       have H' := aa_ H
       clear H
       have p188 : 0 ≤ (x28_2 : Int) := od_
       have q188 : x28_2 < (x3_1.length : Int) := od_
       obtain ⟨ad188, e188, hx188_0⟩ := Kd.at_int (Kd.R_reads' HO_26.out).2.2 x28_2 p188 q188
       cases e188
       replace p188 := eq_true p188
       replace q188 := eq_true q188
       go_wp2_with (first | ((with_reducible refine gD_ 44 rfl ?_); refine Kd.R_lit (Kd.int .u8) _ 5 ?hg (N := 44) ?hd (xs := ([((rd x3_1 x28_2) / 16777216) % 256, ((rd x3_1 x28_2) / 65536) % 256, ((rd x3_1 x28_2) / 256) % 256, (rd x3_1 x28_2) % 256] : List Int)) (inner := [.int .u8 (((rd x3_1 x28_2) / 16777216) % 256), .int .u8 (((rd x3_1 x28_2) / 65536) % 256), .int .u8 (((rd x3_1 x28_2) / 256) % 256), .int .u8 ((rd x3_1 x28_2) % 256)]) (ok := fun _ => True) (okp := fun _ => True) ?hr ?hp (fun _ hk => hk) trivial (Below.refl _ _) (Nat.le_refl _) (by simp) ?_; (case hd => rfl); (case hg => rfl); (case hr => first | (go_simp; done) | (go_simp; rfl)); (case hp => exact (Reps.one (show Kd.M (Kd.int .u8) _ _ _ (((rd x3_1 x28_2) / 16777216) % 256) [.int .u8 (((rd x3_1 x28_2) / 16777216) % 256)] from rfl) (Reps.one (show Kd.M (Kd.int .u8) _ _ _ (((rd x3_1 x28_2) / 65536) % 256) [.int .u8 (((rd x3_1 x28_2) / 65536) % 256)] from rfl) (Reps.one (show Kd.M (Kd.int .u8) _ _ _ (((rd x3_1 x28_2) / 256) % 256) [.int .u8 (((rd x3_1 x28_2) / 256) % 256)] from rfl) (Reps.one (show Kd.M (Kd.int .u8) _ _ _ ((rd x3_1 x28_2) % 256) [.int .u8 ((rd x3_1 x28_2) % 256)] from rfl) (Reps.none _ _)))))); intro v190 w20 ho21 hb hg_ hnew_; clear hg_ hnew_; (first | rw [← Ny189.out] at ho21 | (simp only [Int.reduceToNat] at ho21; rw [← Ny189.out] at ho21)); replace HO_26 := hob_ HO_26 hb; have HO191 := aa_ (Kd.R_lower (Kd.R_new' ho21 (Kd.R_lt (rr_ HO_6))) bls_); replace HO_6 := aa_ (Kd.R_elder' (rr_ HO_6) (Kd.R_base ho21) hb); replace HB := hbs_ hb; clear hb ho21; obtain ⟨Ao23, co23, eo23⟩ := Kd.R_slice HO191.out; subst eo23) | ((with_reducible refine gate_builtin (b := .append) (xs := #[.tmp 32, .tmp 44]) rfl ?_); at_builtin; refine Kd.R_append_rows (Kd.int .u8) (w0 := w) w.heap.size rfl (.tmp 32) (.tmp 44) 31 5 (.int .u8 0) 1 rfl Try.underlying31 info5 rfl (by decide) (by omega) u6 x6_2 y189 _ _ _ (fun k_ => some k_ ≠ (.slice Ao23 y189.length co23 : Value).ownBlock) (fun _ => False) rfl rfl ?aO ?aR (fun _ _ h => h) (fun _ h => h.elim) ?aF ?aB ?aS ?aL ?_; (case aR => repeat (first | exact (Kd.R_reads' HO191.out).2.2 | (with_reducible refine Kd.C_alloc ?_ _) | (with_reducible refine Kd.C_drewN ?_ _) | (with_reducible refine Kd.C_drew ?_))); (case aB => exact bl_); (case aF => exact (fun k_ hk => Kd.fresh' (Kd.R_lt (rr_ HO191)) k_ hk)); (case aO => exact (by (with_reducible repeat (first | apply Kd.R_alloc | apply Kd.R_drewN | apply Kd.R_drew)); exact Kd.R_mono HO_6.out (fun _ hk => hk.2))); (case aS => exact bls_); (case aL => have := LMc19.out; omega); intro v193 w22 ho hb hg hat; rw [← Ny192.out] at ho; replace HO_26 := aa_ (Kd.R_over' (rr_ HO_26) (Kd.R_typed (rr_ HO_6)) (by decide) hg); replace HO191 := aa_ (Kd.R_after (ok := (fun _ => True)) (rr_ HO191) hg hat); replace HB := aa_ (hb); have HO194 := aa_ (ho); clear HO_6; clear ho hb hg hat))
       go_roundg k2
       case measure => have := HK1.out; have := HK2.out; omega
       case rel => exact ⟨(y192), (wrap64 (x28_2 + 1)), rf_, H', ⟨by have := HK1.out; have := HK2.out; omega⟩, ⟨by (with_reducible repeat (first | apply Kd.R_alloc | apply Kd.R_drewN | apply Kd.R_drew)); exact Kd.R_mono HO194.out (fun _ hk => trivial)⟩, ⟨rr_ HO_26⟩, ⟨bl_⟩⟩
      ·rw [if_neg c16] at H
       have c16b0 : decide (x28_2 < (x3_1.length : Int)) = false := decide_eq_false c16
       clear c16
       obtain rfl := Option.some.inj H
       have hcv24 := own_string (P := Try.prog) Try.underlying31 Try.underlying5 Try.underlying9 (Kd.own_of_R HO_6.out)
       go_wp2
       go_ret
       exact ⟨eq_, bl_⟩
def impl_SubjectPlace.f (k : Nat) (a0 : ByteArray) : Option (Int) := if 1 + a0.size ≤ 9223372036854775807 then ((impl_Digest.f k ((⟨#[106]⟩ : ByteArray) ++ a0)).bind fun t195 => (if 0 < (t195.size : Int) then (some (wrap64 (bt t195 0))) else (none))) else (none)
set_option maxHeartbeats 8000000 in
set_option maxRecDepth 100000 in
theorem impl_SubjectPlace.calls (k : Nat) (a0 : ByteArray) (r : Int) (w : World) (h : impl_SubjectPlace.f k a0 = some r) :
  Calls Try.prog 5 #[.string a0] w fun e w' => e = .returned (.int .i64 r) ∧ Below w.heap.size w w' := by
 have HB := aa_ (Below.refl w.heap.size w)
 have H : (if 1 + a0.size ≤ 9223372036854775807 then ((impl_Digest.f k ((⟨#[106]⟩ : ByteArray) ++ a0)).bind fun t195 => (if 0 < (t195.size : Int) then (some (wrap64 (bt t195 0))) else (none))) else (none)) = some r := h
 clear h
 obtain ⟨c2, H⟩ := ifn_ H
 have c2b0 := eq_true c2
 have c2b1 : decide (1 + a0.size ≤ 9223372036854775807) = true := decide_eq_true c2
 try have c2b2 : (9223372036854775807 < 1 + a0.size) = False := eq_false (Nat.not_lt.2 c2)
 obtain ⟨t195, A3, H⟩ := bindE_ H
 obtain ⟨c4, H⟩ := ifn_ H
 have c4b0 : decide (0 < (t195.size : Int)) = true := decide_eq_true c4
 have c4b1 : decide (0 < t195.size) = true := decide_eq_true (by omega)
 clear c4
 obtain rfl := Option.some.inj H
 go_enter Try.func5, Try.ntmps5
 go_wp2_with (first | ((with_reducible refine gC_ 7 rfl ?_); refine goesC_ (some 5) Try.func7 #[.string ((⟨#[106]⟩ : ByteArray) ++ a0)] ?_; (with_reducible refine (impl_Digest.calls k ((⟨#[106]⟩ : ByteArray) ++ a0) t195 _ A3.out).mono ?_); rintro e w6 ⟨rfl, hb⟩; refine ⟨_, rfl, ?_⟩; replace HB := hbs_ hb; clear hb; have p5 : 0 ≤ (0 : Int) := (by omega); have q5 : 0 < t195.size := (by have : (0 : Int) < (t195.size : Int) := od_; omega); have hx5 : ∀ h : 0 < t195.size, ((t195[0]'h).toNat : Int) = bt t195 0 := bt_at t195 0; clear p5; have qi5 : (0 < (t195.size : Int)) = True := eq_true (od_); replace q5 := eq_true q5))
 go_ret
 exact ⟨eq_, bl_⟩
def laws_FnExactSubjectPlace.f (k : Nat) (a0 : ByteArray) : Option (Bool) := if (a0.size : Int) > 1048576 then (some true) else ((spec_SubjectPlace.f a0).bind fun t196 => ((impl_SubjectPlace.f k a0).bind fun t197 => (if t197 = t196 then (some true) else (some false))))
set_option maxHeartbeats 8000000 in
set_option maxRecDepth 100000 in
theorem laws_FnExactSubjectPlace.calls (k : Nat) (a0 : ByteArray) (r : Bool) (w : World) (hr_ : r = true) (h : laws_FnExactSubjectPlace.f k a0 = some r) :
  Calls Try.prog 3 #[.string a0] w fun e w' => e = .returned (.bool r) ∧ Below w.heap.size w w' := by
 have HB := aa_ (Below.refl w.heap.size w)
 have H : (if (a0.size : Int) > 1048576 then (some true) else ((spec_SubjectPlace.f a0).bind fun t196 => ((impl_SubjectPlace.f k a0).bind fun t197 => (if t197 = t196 then (some true) else (some false))))) = some r := h
 clear h
 by_cases c2 : (a0.size : Int) > 1048576
 ·rw [if_pos c2] at H
  have c2b0 : decide (1048576 < (a0.size : Int)) = true := decide_eq_true c2
  have c2b1 : decide (1048576 < a0.size) = true := decide_eq_true (by omega)
  clear c2
  obtain rfl := Option.some.inj H
  go_enter Try.func3, Try.ntmps3
  go_wp2
  go_ret
  exact ⟨eq_, bl_⟩
 ·rw [if_neg c2] at H
  have c2b0 : decide (1048576 < (a0.size : Int)) = false := decide_eq_false c2
  have c2b1 : decide (1048576 < a0.size) = false := decide_eq_false (by omega)
  clear c2
  obtain ⟨t196, A3, H⟩ := bindE_ H
  obtain ⟨t197, A4, H⟩ := bindE_ H
  have HC5 := aa_ H
  clear H
  go_enter Try.func3, Try.ntmps3
  go_upto_if 14 with (first | ((with_reducible refine gC_ 4 rfl ?_); refine goesC_ (some 9) Try.func4 #[.string a0] ?_; (with_reducible refine (spec_SubjectPlace.calls a0 t196 _ A3.out).mono ?_); rintro e w6 ⟨rfl, hb⟩; refine ⟨_, rfl, ?_⟩; replace HB := hbs_ hb; clear hb) | ((with_reducible refine gC_ 5 rfl ?_); refine goesC_ (some 11) Try.func5 #[.string a0] ?_; (with_reducible refine (impl_SubjectPlace.calls k a0 t197 _ A4.out).mono ?_); rintro e w7 ⟨rfl, hb⟩; refine ⟨_, rfl, ?_⟩; replace HB := hbs_ hb; clear hb))
  (try simp only [Act.put, List.setIfInBounds_toArray, List.set_cons_zero, List.set_cons_succ])
  have H := HC5.out
  clear HC5
  by_cases c8 : t197 = t196
  ·rw [if_pos c8] at H
   have c8b0 : (t197 == t196) = true := beq_iff_eq.mpr c8
   have c8b1 : (t197 != t196) = false := bne_eq_false_iff_eq.mpr c8
   clear c8
   (first | rw [c8b0] | (simp only [i64_w, i32_w]; rw [c8b0]) | skip)
   obtain rfl := Option.some.inj H
   go_wp2
   go_ret
   exact ⟨eq_, bl_⟩
  ·rw [if_neg c8] at H
   have c8b0 : (t197 == t196) = false := beq_eq_false_iff_ne.mpr c8
   have c8b1 : (t197 != t196) = true := bne_iff_ne.mpr c8
   (first | rw [c8b0] | (simp only [i64_w, i32_w]; rw [c8b0]) | skip)
   exact absurd (Option.some.inj (H.trans (congrArg some hr_))) (by decide)
end Go.Proofs.Ytingghknjicpjaa.PB
