/-
The digest of a text, second: a block, the padding, all of it: the program's and the reference's are the same.
-/
import Derived.Test.YtingghknjicpjaaKPPBx3
import Derived.Test.YtingghknjicpjaaKPQ80
namespace Go.Proofs.Ytingghknjicpjaa
open Go.RowKit Go.Proofs.YtingghknjicpjaaW.PrintWords Go.Proofs.YtingghknjicpjaaW.PrintLast Go.Proofs.YtingghknjicpjaaW.PrintMore Go.Proofs.Ytingghknjicpjaa.PB PS
set_option linter.unusedVariables false
set_option linter.unusedSimpArgs false
namespace Q
def In32 (l : List Int) : Prop := ∀ x ∈ l, 0 ≤ x ∧ x ≤ 4294967295
theorem in32_rd {l : List Int} (h : In32 l) (i : Nat) (hi : i < l.length) : 0 ≤ rd l (i : Int) ∧ rd l (i : Int) ≤ 4294967295 := by
 rw [shaN _ _ hi]
 exact h _ (List.getElem_mem hi)
theorem add_l2 (S : List Int) (hS : S.length = 8) (hs : List Int) (hh : hs.length = 8) : ∀ (d i : Nat), 8 - i = d → i ≤ 8 → Ev (fun k => impl_ShaBlock.l2 k (hD hs S i) S (S.length : Int) (i : Int)) (hD hs S 8) := by
 intro d
 induction d with
 | zero =>
  intro i h1 h2
  obtain rfl : i = 8 := by omega
  refine Ev.succ ?_
  simp only [impl_ShaBlock.l2, hS, show ¬ (((8 : Nat) : Int) < ((8 : Nat) : Int)) by omega, ↓reduceIte]
  exact Ev.now _
 | succ d ih =>
  intro i h1 h2
  have hx := ih (i + 1) (by omega) (by omega)
  have hl : (hD hs S i).length = 8 := (hD_len _ _ _).trans hh
  rw [hD] at hx
  have e1 : wrap64 ((i : Int) + 1) = ((i + 1 : Nat) : Int) := by rw [w64 (by omega) (by omega)]; omega
  refine Ev.succ ?_
  simp only [impl_ShaBlock.l2, hS, hl, e1, show (i : Int) < ((8 : Nat) : Int) by omega, show (0 : Int) ≤ (i : Int) by omega, ↓reduceIte, Int.toNat_natCast, Int.emod_add_emod]
  rw [hS] at hx
  exact hx
theorem in_u32 {x : Int} (h : 0 ≤ x ∧ x ≤ 4294967295) : impl_in.f x 0 4294967295 = some true := by
 unfold impl_in.f
 rw [if_pos h.1]
 simp [h.2]
theorem set_take (S : List Int) (i : Nat) (h : i < S.length) (z : Int) : (S.take i ++ List.replicate (S.length - i) z).set i S[i] = S.take (i + 1) ++ List.replicate (S.length - (i + 1)) z := by
 have e1 : (S.take i).length = i := by rw [List.length_take]; omega
 rw [List.set_append, if_neg (by omega), e1, Nat.sub_self, show S.length - i = (S.length - (i + 1)) + 1 by omega, List.replicate_succ, List.set_cons_zero, List.take_succ_eq_append_getElem h, List.append_assoc]
 rfl
theorem block_ok (S : List Int) (hS : S.length = 8) (h32 : In32 S) (b : ByteArray) (hb : b.size = 64) : Ev (fun k => impl_ShaBlock.f k S b) (blockV S keysV b) := by
 unfold impl_ShaBlock.f
 simp only [Option.bind_some, List.length_nil, List.nil_append, hS, hb, show 0 + 8 < 17592186044416 by omega, ↓reduceIte, show (((8 : Nat) : Int) = 8) by rfl, show ((((64 : Nat) : Int) != 64) = false) by rfl]
 refine Ev.succ ?_
 simp only [impl_ShaBlock.j0, Bool.false_eq_true, ↓reduceIte, show 8 ≤ 70368744177664 by omega]
 have hT := (stC_len S keysV (wB b 48) 64).trans hS
 have key : ∀ (d i : Nat), 8 - i = d → i ≤ 8 → Ev (fun k => impl_ShaBlock.l0 k b S (S.take i ++ List.replicate (S.length - i) 0) S (S.length : Int) (i : Int)) (blockV S keysV b) := by
  intro d
  induction d with
  | zero =>
   intro i h1 h2
   obtain rfl : i = 8 := by omega
   refine Ev.succ ?_
   simp only [impl_ShaBlock.l0, hS, show ¬ (((8 : Nat) : Int) < ((8 : Nat) : Int)) by omega, ↓reduceIte]
   refine Ev.bind (a := keysV) (Ev.now _) (Ev.bind (schedule_ok b hb) ?_)
   rw [Nat.sub_self, List.replicate_zero, List.append_nil, List.take_of_length_le (by omega)]
   exact rounds_l1 S S (wB b 48) hS (wB_len b 48) _ (add_l2 _ hT S hS 8 0 rfl (by omega)) 64 0 rfl (by omega)
  | succ d ih =>
   intro i h1 h2
   have hi : i < S.length := by omega
   have hx := ih (i + 1) (by omega) (by omega)
   have hr := in32_rd h32 i hi
   have e1 : wrap64 ((i : Int) + 1) = ((i + 1 : Nat) : Int) := by rw [w64 (by omega) (by omega)]; omega
   have hl : (S.take i ++ List.replicate (S.length - i) (0 : Int)).length = 8 := by rw [List.length_append, List.length_take, List.length_replicate]; omega
   refine Ev.succ ?_
   simp only [impl_ShaBlock.l0, in_u32 hr, Option.bind_some, hl, e1, show (i : Int) < (S.length : Int) by omega, show (0 : Int) ≤ (i : Int) by omega, show (i : Int) < ((8 : Nat) : Int) by omega, ↓reduceIte, Int.toNat_natCast]
   rw [Int.emod_eq_of_lt hr.1 (by omega), shaN _ _ hi, set_take S i hi 0]
   exact hx
 have := key 8 0 rfl (by omega)
 simpa [hS] using this
theorem repeat_zero (z : Nat) : Lib.repeatL [0] z = List.replicate z (0 : UInt8) := by
 induction z with
 | zero => rfl
 | succ z ih => rw [Lib.repeatL, ih, List.replicate_succ]; rfl
theorem div256 (x : Nat) (i : Nat) : ((x / 2 ^ (8 * i) : Nat) : Int) / 256 = ((x / 2 ^ (8 * (i + 1)) : Nat) : Int) := by
 rw [show 8 * (i + 1) = 8 * i + 8 by omega, Nat.pow_add, ← Nat.div_div_eq_div_mul]
 omega
def endB (n : Nat) : List Int := [((8 * n / 2 ^ 56 : Nat) : Int) % 256, ((8 * n / 2 ^ 48 : Nat) : Int) % 256, ((8 * n / 2 ^ 40 : Nat) : Int) % 256, ((8 * n / 2 ^ 32 : Nat) : Int) % 256, ((8 * n / 2 ^ 24 : Nat) : Int) % 256, ((8 * n / 2 ^ 16 : Nat) : Int) % 256, ((8 * n / 2 ^ 8 : Nat) : Int) % 256, ((8 * n / 2 ^ 0 : Nat) : Int) % 256]
theorem be_num (n i : Nat) : UInt8.ofNat ((((8 * n / 2 ^ (8 * i) : Nat) : Int) % 256).toNat) = be n i := by
 unfold be
 congr 1
theorem end_str (n : Nat) : (strOfNums (endB n)).data.toList = [be n 7, be n 6, be n 5, be n 4, be n 3, be n 2, be n 1, be n 0] := by
 rw [strOfNums_data]
 simp only [endB, List.map_cons, List.map_nil]
 rw [← be_num n 7, ← be_num n 6, ← be_num n 5, ← be_num n 4, ← be_num n 3, ← be_num n 2, ← be_num n 1, ← be_num n 0]
theorem pad_l0 (x3 : ByteArray) (n : Nat) (hx : x3.size ≤ 4000000) : Ev (fun k => impl_PadText.l0 k x3 ((8 * n : Nat) : Int) (List.replicate 8 0) 7) (x3 ++ strOfNums (endB n)) := by
 have step : ∀ (i : Nat) (l : List Int) (R : ByteArray), i < 8 → l.length = 8 → Ev (fun k => impl_PadText.l0 k x3 ((8 * n / 2 ^ (8 * (7 - i + 1)) : Nat) : Int) (l.set i (((8 * n / 2 ^ (8 * (7 - i)) : Nat) : Int) % 256)) ((i : Int) - 1)) R → Ev (fun k => impl_PadText.l0 k x3 ((8 * n / 2 ^ (8 * (7 - i)) : Nat) : Int) l (i : Int)) R := by
  intro i l R hi hl hn
  refine Ev.succ ?_
  have e1 : wrap64 ((i : Int) - 1) = (i : Int) - 1 := w64 (by omega) (by omega)
  simp only [impl_PadText.l0, hl, e1, show (i : Int) ≥ 0 by omega, show (0 : Int) ≤ (i : Int) by omega, show (i : Int) < ((8 : Nat) : Int) by omega, ↓reduceIte, Int.toNat_natCast, div256]
  exact hn
 have h0 : 8 * n = 8 * n / 2 ^ (8 * (7 - 7)) := by simp
 rw [show List.replicate 8 (0 : Int) = [0, 0, 0, 0, 0, 0, 0, 0] from rfl, h0]
 refine step 7 _ _ (by omega) rfl ?_
 refine step 6 _ _ (by omega) rfl ?_
 refine step 5 _ _ (by omega) rfl ?_
 refine step 4 _ _ (by omega) rfl ?_
 refine step 3 _ _ (by omega) rfl ?_
 refine step 2 _ _ (by omega) rfl ?_
 refine step 1 _ _ (by omega) rfl ?_
 refine step 0 _ _ (by omega) rfl ?_
 refine Ev.succ ?_
 simp only [impl_PadText.l0, show ¬ (((0 : Nat) : Int) - 1 ≥ 0) by omega, ↓reduceIte, strOfNums_size, List.length_set, List.length_cons, List.length_nil, show x3.size + (0 + 1 + 1 + 1 + 1 + 1 + 1 + 1 + 1) ≤ 9223372036854775807 by omega]
 exact Ev.now _
theorem pad_ok (s : ByteArray) (hs : s.size ≤ 2097152) : Ev (fun k => impl_PadText.f k s) (padB s) := by
 unfold impl_PadText.f strings_Repeat.f
 have e1 : (s ++ (⟨#[128]⟩ : ByteArray)).size = s.size + 1 := by rw [ByteArray.size_append]; rfl
 have e2 : ((56 - (((s.size + 1 : Nat) : Int) % 64)) + 64) % 64 = ((padZ s.size : Nat) : Int) := by unfold padZ; omega
 have hz : padZ s.size < 64 := by unfold padZ; omega
 have e3 : wrap64 (8 * (s.size : Int)) = ((8 * s.size : Nat) : Int) := by rw [w64 (by omega) (by omega)]; omega
 have e4 : (⟨(Lib.repeatL [0] (padZ s.size)).toArray⟩ : ByteArray).size = padZ s.size := by rw [repeat_zero]; show (List.replicate (padZ s.size) (0 : UInt8)).toArray.size = _; simp
 have e5 : ((⟨#[0]⟩ : ByteArray).size : Int) = 1 := rfl
 simp only [e1, e2, e3, e5, show s.size + 1 ≤ 9223372036854775807 by omega, ↓reduceIte, show (0 : Int) ≤ ((padZ s.size : Nat) : Int) ∧ ((padZ s.size : Nat) : Int) ≤ 1000000 ∧ 1 * ((padZ s.size : Nat) : Int) ≤ 1000000 from ⟨by omega, by omega, by omega⟩, and_self, Option.bind_some, Int.toNat_natCast, e4, show s.size + 1 + padZ s.size ≤ 9223372036854775807 by omega, show 8 ≤ 281474976710656 by omega]
 have h := pad_l0 (s ++ (⟨#[128]⟩ : ByteArray) ++ ⟨(Lib.repeatL [0] (padZ s.size)).toArray⟩) s.size (by rw [ByteArray.size_append, e1, e4]; omega)
 have e6 : s ++ (⟨#[128]⟩ : ByteArray) ++ ⟨(Lib.repeatL [0] (padZ s.size)).toArray⟩ ++ strOfNums (endB s.size) = padB s := by
  apply toList_inj
  rw [toList_eq, toList_eq]
  simp only [ByteArray.data_append, Array.toList_append]
  rw [end_str, repeat_zero]
  show _ = (padS s).toArray.toList
  rw [List.toList_toArray]
  rfl
 rw [e6] at h
 exact h
theorem in32_set {l : List Int} (h : In32 l) (i : Nat) (x : Int) : In32 (l.set i (x % 4294967296)) := by
 intro y hy
 rcases List.mem_or_eq_of_mem_set hy with hy | rfl
 ·exact h y hy
 ·omega
theorem in32_hD (hs S : List Int) (h : In32 hs) : ∀ i, In32 (hD hs S i)
 | 0 => h
 | i + 1 => in32_set (in32_hD hs S h i) i _
theorem in32_st (p : ByteArray) : ∀ i, In32 (stD p i)
 | 0 => by intro x hx; simp only [stD, first8, List.mem_cons, List.not_mem_nil, or_false] at hx; omega
 | i + 1 => in32_hD _ _ (in32_st p i) 8
def outB : List Int → List Int
 | [] => []
 | n :: l => [n / 16777216 % 256, n / 65536 % 256, n / 256 % 256, n % 256] ++ outB l
theorem outB_app (n : Int) : ∀ l, outB (l ++ [n]) = outB l ++ [n / 16777216 % 256, n / 65536 % 256, n / 256 % 256, n % 256]
 | [] => by simp [outB]
 | m :: l => by simp only [List.cons_append, outB, outB_app n l, List.append_assoc]
theorem outB_len : ∀ l, (outB l).length = 4 * l.length
 | [] => rfl
 | n :: l => by rw [outB, List.length_append, outB_len l]; simp; omega
theorem oD_out (S : List Int) (h : S.length = 8) : oD S 8 = outB S := by
 obtain ⟨a, b, c, d, e, f, g, i, rfl⟩ := eight h
 simp [oD, outB, rd, List.replicate]
theorem dig_l1 (S : List Int) (hS : S.length = 8) : ∀ (d i : Nat), 8 - i = d → i ≤ 8 → Ev (fun k => impl_Digest.l1 k (outB (S.take i)) S (S.length : Int) (i : Int)) (strOfNums (oD S 8)) := by
 intro d
 induction d with
 | zero =>
  intro i h1 h2
  obtain rfl : i = 8 := by omega
  refine Ev.succ ?_
  simp only [impl_Digest.l1, hS, show ¬ (((8 : Nat) : Int) < ((8 : Nat) : Int)) by omega, ↓reduceIte]
  rw [List.take_of_length_le (by omega), oD_out S hS]
  exact Ev.now _
 | succ d ih =>
  intro i h1 h2
  have hi : i < S.length := by omega
  have hx := ih (i + 1) (by omega) (by omega)
  have e1 : wrap64 ((i : Int) + 1) = ((i + 1 : Nat) : Int) := by rw [w64 (by omega) (by omega)]; omega
  rw [List.take_succ_eq_append_getElem hi, outB_app] at hx
  have hl : (outB (S.take i)).length ≤ 32 := by rw [outB_len, List.length_take]; omega
  refine Ev.succ ?_
  simp only [impl_Digest.l1, e1, show (i : Int) < (S.length : Int) by omega, show (0 : Int) ≤ (i : Int) by omega, ↓reduceIte, Option.bind_some, shaN S i hi, List.length_cons, List.length_nil, show (outB (S.take i)).length + (0 + 1 + 1 + 1 + 1) < 140737488355328 by omega]
  exact hx
theorem digest_ok (s : ByteArray) (hs : s.size ≤ 2097152) : Ev (fun k => impl_Digest.f k s) (digS s) := by
 unfold impl_Digest.f
 refine Ev.bind (a := first8) (Ev.now _) (Ev.bind (pad_ok s hs) ?_)
 have hp := padB_size s
 have hn : nbl s ≤ 40000 := by
  have h2 := padS_len s
  have h3 : (padB s).size = (padS s).length := by show (padS s).toArray.size = _; simp
  unfold padZ at h2
  omega
 have key : ∀ (d i : Nat), nbl s - i = d → i ≤ nbl s → Ev (fun k => impl_Digest.l0 k (stD (padB s) i) (padB s) ((64 * i : Nat) : Int)) (digS s) := by
  intro d
  induction d with
  | zero =>
   intro i h1 h2
   obtain rfl : i = nbl s := by omega
   refine Ev.succ ?_
   simp only [impl_Digest.l0, hp, show ¬ (((64 * nbl s : Nat) : Int) < ((64 * nbl s : Nat) : Int)) by omega, ↓reduceIte]
   have := dig_l1 (stD (padB s) (nbl s)) (stD_len _ _) 8 0 rfl (by omega)
   exact this
  | succ d ih =>
   intro i h1 h2
   have hx := ih (i + 1) (by omega) (by omega)
   have e1 : wrap64 (((64 * i : Nat) : Int) + 64) = ((64 * i + 64 : Nat) : Int) := by rw [w64 (by omega) (by omega)]; omega
   refine Ev.succ ?_
   simp only [impl_Digest.l0, hp, e1, show ((64 * i : Nat) : Int) < ((64 * nbl s : Nat) : Int) by omega, show (0 : Int) ≤ ((64 * i : Nat) : Int) by omega, show ((64 * i : Nat) : Int) ≤ ((64 * i + 64 : Nat) : Int) by omega, show ((64 * i + 64 : Nat) : Int) ≤ ((64 * nbl s : Nat) : Int) by omega, ↓reduceIte, Int.toNat_natCast]
   refine Ev.bind (block_ok (stD (padB s) i) (stD_len _ _) (in32_st _ _) _ (by rw [ext_size _ _ _ (by rw [hp]; omega)]; omega)) ?_
   rw [stD] at hx
   exact hx
 exact key (nbl s) 0 rfl (Nat.zero_le _)
end Q
end Go.Proofs.Ytingghknjicpjaa
