/-
Numbers read out of a text: the reference's ReadVar (it holds the number's own bytes against the text) and the program's (it looks at the last byte) are one plain function; what is read are the number's own bytes.
-/
import Derived.Test.YteppfdkfikeclaaKRQ49
namespace Go.Proofs.Yteppfdkfikeclaa
open Go.RowKit Go.Proofs.YteppfdkfikeclaaW.PrintWords Go.Proofs.YteppfdkfikeclaaW.PrintLast Go.Proofs.YteppfdkfikeclaaW.PrintMore Go.Proofs.Yteppfdkfikeclaa.PL
set_option linter.unusedVariables false
set_option linter.unusedSimpArgs false
namespace Q
/-- The number that some bytes tell. -/
def val : List Nat → Nat
 | [] => 0
 | b :: r => b % 128 + 128 * val r
theorem val_snoc : ∀ (p : List Nat) (x : Nat), val (p ++ [x]) = val p + x % 128 * 128 ^ p.length := by
 intro p
 induction p with
 | nil => intro x; simp [val]
 | cons b r ih =>
  intro x
  simp only [List.cons_append, val, ih, List.length_cons, Nat.pow_succ]
  rw [Nat.mul_add, Nat.add_assoc, show 128 * (x % 128 * 128 ^ r.length) = x % 128 * (128 ^ r.length * 128) by rw [Nat.mul_left_comm, Nat.mul_comm 128]]
theorem val_lt : ∀ (p : List Nat), val p < 128 ^ p.length := by
 intro p
 induction p with
 | nil => simp [val]
 | cons b r ih =>
  simp only [val, List.length_cons, Nat.pow_succ]
  omega
theorem canon : ∀ (p : List Nat) (x : Nat), (∀ b ∈ p, 128 ≤ b ∧ b < 256) → x < 128 → (vt (val (p ++ [x])) = (p ++ [x]).map (fun b : Nat => (b : Int)) ↔ (p = [] ∨ x ≠ 0)) := by
 intro p
 induction p with
 | nil =>
  intro x _ hx
  have e : val ([] ++ [x]) = x := by simp [val]; omega
  rw [e, vt_small (by omega)]
  simp
 | cons b r ih =>
  intro x hp hx
  obtain ⟨hb1, hb2⟩ := hp b List.mem_cons_self
  have ih := ih x (fun c hc => hp c (List.mem_cons_of_mem _ hc)) hx
  have e : val (b :: r ++ [x]) = b % 128 + 128 * val (r ++ [x]) := rfl
  rw [e]
  by_cases h0 : val (r ++ [x]) = 0
  ·have hx0 : x = 0 := by
    rw [val_snoc] at h0
    have : x % 128 * 128 ^ r.length = 0 := by omega
    rcases Nat.mul_eq_zero.1 this with h | h
    ·omega
    ·have := Nat.pos_of_ne_zero (n := 128 ^ r.length) (by exact Nat.pos_iff_ne_zero.1 (Nat.pow_pos (by decide))); omega
   rw [h0, vt_small (by omega)]
   constructor
   ·intro h
    have := congrArg List.length h
    simp at this
   ·rintro (h | h)
    ·cases h
    ·exact absurd hx0 h
  ·rw [vt_big (by omega), show (b % 128 + 128 * val (r ++ [x])) / 128 = val (r ++ [x]) by omega]
   have hb : (((b % 128 + 128 * val (r ++ [x]) : Nat) : Int)) % 128 + 128 = (b : Int) := by omega
   rw [hb]
   constructor
   ·intro h
    right
    have h2 : vt (val (r ++ [x])) = (r ++ [x]).map (fun b : Nat => (b : Int)) := by simpa using h
    rcases ih.1 h2 with h3 | h3
    ·subst h3
     intro hx0
     rw [hx0] at h0
     exact h0 rfl
    ·exact h3
   ·rintro (h | h)
    ·cases h
    ·have := ih.2 (.inr h)
     simp [this]
/-- A byte of a text as a number. -/
def byte (t : ByteArray) (i : Nat) : Nat := (t.data.toList.getD i 0).toNat
theorem byte_lt (t : ByteArray) (i : Nat) : byte t i < 256 := UInt8.toNat_lt _
theorem bt_byte (t : ByteArray) (i : Nat) : bt t (i : Int) = (byte t i : Int) := by
 unfold bt byte
 simp only [Int.toNat_natCast]
 split
 ·rename_i h
  have h2 : i < t.data.toList.length := by rw [Array.length_toList]; exact h
  rw [List.getD_eq_getElem?_getD, List.getElem?_eq_getElem h2]
  rfl
 ·rename_i h
  have h2 : ¬ i < t.data.toList.length := by rw [Array.length_toList]; exact h
  rw [List.getD_eq_getElem?_getD, List.getElem?_eq_none (by omega)]
  rfl
/-- The bytes from a place on. -/
def bytesAt (t : ByteArray) (at_ : Nat) : Nat → List Nat
 | 0 => []
 | j + 1 => bytesAt t at_ j ++ [byte t (at_ + j)]
theorem bytesAt_len (t : ByteArray) (at_ : Nat) : ∀ j, (bytesAt t at_ j).length = j := by
 intro j
 induction j with
 | zero => rfl
 | succ j ih => simp [bytesAt, ih]
def rv (t : ByteArray) (at_ : Nat) (j n : Nat) : Int × Int × Bool :=
 if h : j < 5 ∧ at_ + j < t.size then
  (if byte t (at_ + j) ≥ 128 then rv t at_ (j + 1) (n + byte t (at_ + j) % 128 * 128 ^ j)
   else if (byte t (at_ + j) = 0 ∧ 0 < j) ∨ n + byte t (at_ + j) % 128 * 128 ^ j > 1000000000 then (0, 0, false)
   else (((n + byte t (at_ + j) % 128 * 128 ^ j : Nat) : Int), ((at_ + j + 1 : Nat) : Int), true))
 else (0, 0, false)
 termination_by 5 - j
def readVarB (t : ByteArray) (at_ : Int) : Int × Int × Bool := if 0 ≤ at_ ∧ at_ ≤ t.size then rv t at_.toNat 0 0 else (0, 0, false)
theorem pow5 {j : Nat} (h : j < 5) : 128 ^ j ≤ 268435456 := by
 have : j = 0 ∨ j = 1 ∨ j = 2 ∨ j = 3 ∨ j = 4 := by omega
 rcases this with rfl | rfl | rfl | rfl | rfl <;> decide
theorem small_ {n x p : Nat} (hp : p ≤ 268435456) (hn : n < p) : n + x % 128 * p ≤ 34628173824 := by
 have : x % 128 * p ≤ 127 * 268435456 := Nat.mul_le_mul (by omega) hp
 omega
theorem next_lt {n x j : Nat} (h : n < 128 ^ j) : n + x % 128 * 128 ^ j < 128 ^ (j + 1) := by
 have : x % 128 * 128 ^ j ≤ 127 * 128 ^ j := Nat.mul_le_mul_right _ (by omega)
 rw [Nat.pow_succ]; omega
theorem pow128 (j : Nat) : 128 ^ j = 2 ^ (7 * j) := by rw [Nat.pow_mul]
theorem or_shift {n x j : Nat} (hx : x < 256) (hj : j < 5) (h : n < 128 ^ j) : Go.bits .or .i64 (n : Int) (shl .i64 (Go.bits .and .i64 (x : Int) 127) ((7 * j : Nat) : Int)) = ((n + x % 128 * 128 ^ j : Nat) : Int) := by
 have hp := pow5 hj
 have hs : x % 128 * 128 ^ j ≤ 127 * 268435456 := Nat.mul_le_mul (by omega) hp
 have e1 : shl .i64 (Go.bits .and .i64 (x : Int) 127) ((7 * j : Nat) : Int) = ((2 ^ (7 * j) * (x % 128) : Nat) : Int) := by
  rw [and127 (by omega) (by omega)]
  unfold shl
  rw [Int.toNat_natCast, show min (7 * j) IntKind.i64.bits = 7 * j from Nat.min_eq_left (by show 7 * j ≤ 64; omega)]
  have e2 : ((x : Int) % 128 * 2 ^ (7 * j)) = ((2 ^ (7 * j) * (x % 128) : Nat) : Int) := by
   rw [Nat.mul_comm (2 ^ (7 * j))]; simp
  rw [e2, wraps_i64 _ (by omega)]
  rw [← pow128, Nat.mul_comm]
  omega
 rw [e1]
 rw [← pow128] at e1 ⊢
 have hs2 : 128 ^ j * (x % 128) ≤ 127 * 268435456 := by rw [Nat.mul_comm]; exact hs
 rw [(bits_nat .i64 63 (by decide) wraps_i64 n (128 ^ j * (x % 128)) (by omega) (by omega)).2, Nat.or_comm, pow128, ← Nat.two_pow_add_eq_or_of_lt (by rw [← pow128]; exact h) (x % 128), ← pow128, Nat.mul_comm (128 ^ j), Nat.add_comm]
theorem impl_rv (t : ByteArray) (ht : t.size ≤ 1048576) (at_ : Nat) (ha : at_ ≤ t.size) : ∀ (d j n : Nat), 5 - j = d → j ≤ 5 → n < 128 ^ j → Ev (fun k => impl_ReadVar.l0 k t at_ n j) (rv t at_ j n) := by
 intro d
 induction d with
 | zero =>
  intro j n hd hj hn
  obtain rfl : j = 5 := by omega
  rw [rv, dif_neg (by omega)]
  refine Ev.succ ?_
  simp only [impl_ReadVar.l0, show ¬ (((5 : Nat) : Int) < 5) by omega, ↓reduceIte]
  refine Ev.succ ?_
  simp only [impl_ReadVar.j1, Bool.false_eq_true, ↓reduceIte]
  exact Ev.now _
 | succ d ih =>
  intro j n hd hj hn
  have hj5 : j < 5 := by omega
  refine Ev.succ ?_
  simp only [impl_ReadVar.l0, show ((j : Nat) : Int) < 5 by omega, ↓reduceIte]
  rw [w64 (n := (at_ : Int) + j) (by omega) (by omega)]
  refine Ev.succ ?_
  rw [rv]
  by_cases h1 : at_ + j < t.size
  ·have hb := byte_lt t (at_ + j)
   have hp := pow5 hj5
   have hsm := small_ (x := byte t (at_ + j)) hp hn
   have e0 : bt t ((at_ : Int) + j) = (byte t (at_ + j) : Int) := by rw [← bt_byte]; rfl
   simp only [impl_ReadVar.j1, show ((at_ : Int) + j < (t.size : Int)) by omega, decide_true, ↓reduceIte, w64 (n := (at_ : Int) + j) (by omega) (by omega), show (0 : Int) ≤ (at_ : Int) + j by omega,
    w64 (n := 7 * (j : Int)) (by omega) (by omega), show (0 : Int) ≤ 7 * (j : Int) by omega, e0, w64 (n := (byte t (at_ + j) : Int)) (by omega) (by omega)]
   rw [show (7 * (j : Int)) = ((7 * j : Nat) : Int) by omega, or_shift hb hj5 hn]
   rw [dif_pos ⟨hj5, h1⟩]
   by_cases h2 : byte t (at_ + j) ≥ 128
   ·simp only [show ((byte t (at_ + j) : Int) > 127) by omega, h2, ↓reduceIte]
    rw [w64 (n := (j : Int) + 1) (by omega) (by omega)]
    exact ih (j + 1) _ (by omega) (by omega) (next_lt hn)
   ·simp only [show ¬ ((byte t (at_ + j) : Int) > 127) by omega, h2, ↓reduceIte]
    rw [w64 (n := (at_ : Int) + j + 1) (by omega) (by omega)]
    by_cases h4 : byte t (at_ + j) = 0 ∧ 0 < j
    ·simp only [show ((byte t (at_ + j) : Int) = 0) by omega, show ((j : Int) > 0) by omega, h4, ↓reduceIte, true_or, and_self]
     exact Ev.now _
    ·have e4 : ∀ (a b : Option (Int × Int × Bool)), (if (byte t (at_ + j) : Int) = 0 then (if (j : Int) > 0 then a else b) else b) = b := by
      intro a b
      by_cases h3 : (byte t (at_ + j) : Int) = 0
      ·rw [if_pos h3, if_neg (by omega)]
      ·rw [if_neg h3]
     simp only [e4, h4, false_or]
     by_cases h5 : n + byte t (at_ + j) % 128 * 128 ^ j > 1000000000
     ·simp only [show (((n + byte t (at_ + j) % 128 * 128 ^ j : Nat) : Int) > 1000000000) by omega, h5, ↓reduceIte]; exact Ev.now _
     ·simp only [show ¬ (((n + byte t (at_ + j) % 128 * 128 ^ j : Nat) : Int) > 1000000000) by omega, h5, ↓reduceIte]
      have : ((at_ : Int) + j + 1) = ((at_ + j + 1 : Nat) : Int) := by omega
      rw [this]
      exact Ev.now _
  ·rw [dif_neg (by omega)]
   simp only [impl_ReadVar.j1, show ¬ ((at_ : Int) + j < (t.size : Int)) by omega, decide_false, Bool.false_eq_true, ↓reduceIte]
   exact Ev.now _
theorem impl_ReadVar (t : ByteArray) (ht : t.size ≤ 1048576) (at_ : Int) : Ev (fun k => impl_ReadVar.f k t at_) (readVarB t at_) := by
 unfold impl_ReadVar.f readVarB
 simp only [impl_in, Option.bind_some]
 by_cases h : 0 ≤ at_ ∧ at_ ≤ t.size
 ·simp only [inB_iff.2 h, h, and_self, ↓reduceIte]
  obtain ⟨m, rfl⟩ := Int.eq_ofNat_of_zero_le h.1
  have := impl_rv t ht m (by omega) 5 0 0 rfl (by omega) (by decide)
  simpa using this
 ·have hb : inB at_ 0 t.size = false := by simpa [inB] using h
  simp only [hb, h, Bool.false_eq_true, ↓reduceIte]
  exact Ev.now _
theorem vt_range : ∀ (m n : Nat), n ≤ m → ∀ x ∈ vt n, 0 ≤ x ∧ x < 256 := by
 intro m
 induction m with
 | zero => intro n h x hx; rw [vt_small (by omega)] at hx; simp at hx; omega
 | succ m ih =>
  intro n h x hx
  by_cases h1 : n > 127
  ·rw [vt_big h1] at hx
   rcases List.mem_cons.1 hx with rfl | hx
   ·omega
   ·exact ih (n / 128) (by omega) x hx
  ·rw [vt_small h1] at hx; simp at hx; omega
theorem bytesAt_succ (t : ByteArray) (a : Nat) : ∀ m, bytesAt t a (m + 1) = byte t a :: bytesAt t (a + 1) m := by
 intro m
 induction m with
 | zero => simp [bytesAt]
 | succ m ih =>
  show bytesAt t a (m + 1) ++ [byte t (a + (m + 1))] = _
  rw [ih]
  show byte t a :: (bytesAt t (a + 1) m ++ [byte t (a + (m + 1))]) = byte t a :: (bytesAt t (a + 1) m ++ [byte t (a + 1 + m)])
  rw [show a + 1 + m = a + (m + 1) by omega]
theorem drop_take (t : ByteArray) : ∀ (m a : Nat), a + m ≤ t.size → (t.data.toList.drop a).take m = (bytesAt t a m).map UInt8.ofNat := by
 intro m
 induction m with
 | zero => intro a h; simp [bytesAt]
 | succ m ih =>
  intro a h
  have hl : a < t.data.toList.length := by rw [Array.length_toList]; show a < t.size; omega
  rw [bytesAt_succ, List.drop_eq_getElem_cons hl, List.take_succ_cons, ih (a + 1) (by omega), List.map_cons]
  congr 1
  unfold byte
  rw [List.getD_eq_getElem?_getD, List.getElem?_eq_getElem hl]
  simp
theorem extract_bytes (t : ByteArray) (a m : Nat) (h : a + m ≤ t.size) : (t.extract a (a + m)).toList = (bytesAt t a m).map UInt8.ofNat := by
 rw [toList_eq, ← drop_take t m a h]
 simp [ByteArray.data_extract, Array.toList_extract, List.extract]
theorem vtB_toList (n : Int) : (vtB n).toList = (vt n.toNat).map (fun x => UInt8.ofNat x.toNat) := by
 rw [toList_eq]; rfl
theorem bytes_inj : ∀ (a : List Int) (b : List Nat), (∀ x ∈ a, 0 ≤ x ∧ x < 256) → (∀ x ∈ b, x < 256) → a.map (fun x => UInt8.ofNat x.toNat) = b.map UInt8.ofNat → a = b.map (fun x : Nat => (x : Int)) := by
 intro a
 induction a with
 | nil => intro b _ _ h; cases b with | nil => rfl | cons y ys => simp at h
 | cons x xs ih =>
  intro b ha hb h
  cases b with
  | nil => simp at h
  | cons y ys =>
   simp only [List.map_cons, List.cons.injEq] at h ⊢
   obtain ⟨hx1, hx2⟩ := ha x List.mem_cons_self
   have hy := hb y List.mem_cons_self
   refine ⟨?_, ih ys (fun z hz => ha z (List.mem_cons_of_mem _ hz)) (fun z hz => hb z (List.mem_cons_of_mem _ hz)) h.2⟩
   have e := congrArg UInt8.toNat h.1
   rw [UInt8.toNat_ofNat_of_lt' (by show x.toNat < 256; omega), UInt8.toNat_ofNat_of_lt' (by show y < 256; omega)] at e
   omega
theorem bytesAt_lt (t : ByteArray) (a : Nat) : ∀ m, ∀ x ∈ bytesAt t a m, x < 256 := by
 intro m
 induction m with
 | zero => intro x hx; simp [bytesAt] at hx
 | succ m ih =>
  intro x hx
  rcases List.mem_append.1 hx with hx | hx
  ·exact ih x hx
  ·rw [List.mem_singleton.1 hx]; exact byte_lt _ _
theorem same_bytes (t : ByteArray) (a j : Nat) (h : a + j < t.size) (hb : ∀ x ∈ bytesAt t a j, 128 ≤ x) (hx : byte t (a + j) < 128) :
  ((vtB (val (bytesAt t a (j + 1)) : Int)).toList = (t.extract a (a + (j + 1))).toList) ↔ (j = 0 ∨ byte t (a + j) ≠ 0) := by
 rw [vtB_toList, extract_bytes t a (j + 1) (by omega), Int.toNat_natCast]
 have hc := canon (bytesAt t a j) (byte t (a + j)) (fun b hb' => ⟨hb b hb', bytesAt_lt t a j b hb'⟩) hx
 have e : bytesAt t a (j + 1) = bytesAt t a j ++ [byte t (a + j)] := rfl
 have e0 : bytesAt t a j = [] ↔ j = 0 := by
  rw [← List.length_eq_zero_iff, bytesAt_len]
 rw [← e0, ← hc, e]
 constructor
 ·intro h2
  exact bytes_inj _ _ (vt_range _ _ (Nat.le_refl _)) (by rw [← e]; exact bytesAt_lt t a (j + 1)) h2
 ·intro h2
  rw [h2, List.map_map]
  rfl
theorem spec_rv (t : ByteArray) (ht : t.size ≤ 1048576) (at_ : Nat) (ha : at_ ≤ t.size) : ∀ (d j : Nat), 5 - j = d → j ≤ 5 → at_ + j ≤ t.size → (∀ x ∈ bytesAt t at_ j, 128 ≤ x) →
  Ev (fun k => spec_ReadVar.l0 k t at_ (val (bytesAt t at_ j)) ((128 ^ j : Nat) : Int) ((at_ + j : Nat) : Int)) (rv t at_ j (val (bytesAt t at_ j))) := by
 intro d
 induction d with
 | zero =>
  intro j hd hj hs hb
  obtain rfl : j = 5 := by omega
  rw [rv, dif_neg (by omega)]
  have j1 : Ev (fun k => spec_ReadVar.j1 k t at_ (val (bytesAt t at_ 5)) ((128 ^ 5 : Nat) : Int) ((at_ + 5 : Nat) : Int) false) (0, 0, false) := by
   refine Ev.succ ?_
   simp only [spec_ReadVar.j1, Bool.false_eq_true, ↓reduceIte]
   exact Ev.now _
  refine Ev.succ ?_
  simp only [spec_ReadVar.l0]
  rw [w64 (n := (at_ : Int) + 5) (by omega) (by omega)]
  have e : decide (((at_ + 5 : Nat) : Int) < (at_ : Int) + 5) = false := by simp
  rw [e]
  exact Ev.ite (fun _ => j1) (fun _ => j1)
 | succ d ih =>
  intro j hd hj hs hb
  have hj5 : j < 5 := by omega
  have hn : val (bytesAt t at_ j) < 128 ^ j := by have := val_lt (bytesAt t at_ j); rwa [bytesAt_len] at this
  have e1 : val (bytesAt t at_ (j + 1)) = val (bytesAt t at_ j) + byte t (at_ + j) % 128 * 128 ^ j := by
   show val (bytesAt t at_ j ++ [byte t (at_ + j)]) = _
   rw [val_snoc, bytesAt_len]
  rw [rv]
  refine Ev.succ ?_
  simp only [spec_ReadVar.l0]
  rw [w64 (n := (at_ : Int) + 5) (by omega) (by omega)]
  have e5 : decide (((at_ + j : Nat) : Int) < (at_ : Int) + 5) = true := by simp; omega
  rw [e5]
  by_cases h1 : at_ + j < t.size
  ·have hbl := byte_lt t (at_ + j)
   have hp := pow5 hj5
   have hsm := small_ (x := byte t (at_ + j)) hp hn
   have hpos : 0 < 128 ^ j := Nat.pow_pos (by decide)
   simp only [show (((at_ + j : Nat) : Int) < (t.size : Int)) by omega, ↓reduceIte]
   refine Ev.succ ?_
   rw [dif_pos ⟨hj5, h1⟩]
   have e2 : wrap64 ((val (bytesAt t at_ j) : Int) + wrap64 (Int.tmod (wrap64 (byte t (at_ + j) : Int)) 128 * ((128 ^ j : Nat) : Int))) = ((val (bytesAt t at_ j) + byte t (at_ + j) % 128 * 128 ^ j : Nat) : Int) := by
    rw [w64 (n := (byte t (at_ + j) : Int)) (by omega) (by omega), Int.tmod_eq_emod_of_nonneg (by omega)]
    have e3 : (byte t (at_ + j) : Int) % 128 * ((128 ^ j : Nat) : Int) = ((byte t (at_ + j) % 128 * 128 ^ j : Nat) : Int) := by simp
    rw [e3, w64 (n := ((byte t (at_ + j) % 128 * 128 ^ j : Nat) : Int)) (by omega) (by omega), w64 (by omega) (by omega)]
    omega
   have hsame := fun h2 => same_bytes t at_ j h1 hb h2
   rw [e1] at hsame
   have ih := fun (h2 : byte t (at_ + j) ≥ 128) => ih (j + 1) (by omega) (by omega) (by omega) (fun x hx => by
     rcases List.mem_append.1 hx with hx | hx
     ·exact hb x hx
     ·rw [List.mem_singleton.1 hx]; exact h2)
   rw [e1] at ih
   generalize hN : val (bytesAt t at_ j) + byte t (at_ + j) % 128 * 128 ^ j = N at e1 e2 hsm hsame ih ⊢
   have e6 : wrap64 (((128 ^ j : Nat) : Int) * 128) = ((128 ^ (j + 1) : Nat) : Int) := by
    rw [w64 (n := ((128 ^ j : Nat) : Int) * 128) (by omega) (by omega), Nat.pow_succ]; simp
   generalize ((128 ^ j : Nat) : Int) = P at e2 e6 ⊢
   clear hN e1 hn hp hpos hsm
   simp only [spec_ReadVar.j1, ↓reduceIte, show (0 : Int) ≤ ((at_ + j : Nat) : Int) by omega, show (((at_ + j : Nat) : Int) < (t.size : Int)) by omega, bt_byte, e2, e6,
    w64 (n := ((at_ + j : Nat) : Int) + 1) (by omega) (by omega), show (0 : Int) ≤ (at_ : Int) by omega, show ((at_ : Int) ≤ ((at_ + j : Nat) : Int) + 1) by omega, show (((at_ + j : Nat) : Int) + 1 ≤ (t.size : Int)) by omega]
   by_cases h2 : byte t (at_ + j) ≥ 128
   ·simp only [show ¬ ((byte t (at_ + j) : Int) < 128) by omega, h2, ↓reduceIte]
    have e7 : ((at_ + j : Nat) : Int) + 1 = ((at_ + (j + 1) : Nat) : Int) := by omega
    rw [e7]
    exact ih h2
   ·simp only [show ((byte t (at_ + j) : Int) < 128) by omega, h2, ↓reduceIte]
    by_cases h5 : N > 1000000000
    ·have h5' : (N : Int) > 1000000000 := by omega
     simp only [h5', h5, or_true, ↓reduceIte]
     exact Ev.now _
    ·have h5' : ¬ (N : Int) > 1000000000 := by omega
     simp only [h5', h5, or_false, ↓reduceIte]
     refine Ev.bind (spec_l01Var (N : Int) (by omega) (by omega)) ?_
     have hsame := hsame (by omega)
     have e8 : (((at_ + j : Nat) : Int) + 1).toNat = at_ + (j + 1) := by omega
     simp only [Int.toNat_natCast, e8]
     by_cases h4 : byte t (at_ + j) = 0 ∧ 0 < j
     ·have : ¬ ((vtB (N : Int)).toList = (t.extract at_ (at_ + (j + 1))).toList) := by rw [hsame]; omega
      rw [if_pos h4]
      simp only [this, ↓reduceIte]
      exact Ev.now _
     ·have : ((vtB (N : Int)).toList = (t.extract at_ (at_ + (j + 1))).toList) := by rw [hsame]; omega
      rw [if_neg h4]
      simp only [this, ↓reduceIte]
      have e7 : ((at_ + j : Nat) : Int) + 1 = ((at_ + j + 1 : Nat) : Int) := by omega
      rw [e7]
      exact Ev.now _
  ·rw [dif_neg (by omega)]
   simp only [show ¬ (((at_ + j : Nat) : Int) < (t.size : Int)) by omega, ↓reduceIte]
   refine Ev.succ ?_
   simp only [spec_ReadVar.j1, Bool.false_eq_true, ↓reduceIte]
   exact Ev.now _
theorem spec_ReadVar (t : ByteArray) (ht : t.size ≤ 1048576) (at_ : Int) : Ev (fun k => spec_ReadVar.f k t at_) (readVarB t at_) := by
 unfold spec_ReadVar.f readVarB
 simp only [spec_in, Option.bind_some]
 by_cases h : 0 ≤ at_ ∧ at_ ≤ t.size
 ·simp only [inB_iff.2 h, h, and_self, ↓reduceIte]
  obtain ⟨m, rfl⟩ := Int.eq_ofNat_of_zero_le h.1
  have := spec_rv t ht m (by omega) 5 0 rfl (by omega) (by omega) (by simp [bytesAt])
  simpa [bytesAt, val] using this
 ·have hb : inB at_ 0 t.size = false := by simpa [inB] using h
  simp only [hb, h, Bool.false_eq_true, ↓reduceIte]
  exact Ev.now _
/-- What is read are the number's own bytes. -/
theorem rv_own (t : ByteArray) (at_ : Nat) : ∀ (d j : Nat), 5 - j = d → j ≤ 5 → (∀ x ∈ bytesAt t at_ j, 128 ≤ x) → ∀ n next, rv t at_ j (val (bytesAt t at_ j)) = (n, next, true) →
  ∃ m : Nat, next = ((at_ + m : Nat) : Int) ∧ 1 ≤ m ∧ at_ + m ≤ t.size ∧ 0 ≤ n ∧ n ≤ 1000000000 ∧ (bytesAt t at_ m).map UInt8.ofNat = (vtB n).data.toList := by
 intro d
 induction d with
 | zero =>
  intro j hd hj hb n next h
  obtain rfl : j = 5 := by omega
  rw [rv, dif_neg (by omega)] at h
  simp at h
 | succ d ih =>
  intro j hd hj hb n next h
  have hj5 : j < 5 := by omega
  have e1 : val (bytesAt t at_ (j + 1)) = val (bytesAt t at_ j) + byte t (at_ + j) % 128 * 128 ^ j := by
   show val (bytesAt t at_ j ++ [byte t (at_ + j)]) = _
   rw [val_snoc, bytesAt_len]
  rw [rv] at h
  by_cases h1 : at_ + j < t.size
  ·rw [dif_pos ⟨hj5, h1⟩] at h
   by_cases h2 : byte t (at_ + j) ≥ 128
   ·rw [if_pos h2, ← e1] at h
    exact ih (j + 1) (by omega) (by omega) (fun x hx => by
     rcases List.mem_append.1 hx with hx | hx
     ·exact hb x hx
     ·rw [List.mem_singleton.1 hx]; exact h2) n next h
   ·rw [if_neg h2] at h
    by_cases h3 : (byte t (at_ + j) = 0 ∧ 0 < j) ∨ val (bytesAt t at_ j) + byte t (at_ + j) % 128 * 128 ^ j > 1000000000
    ·rw [if_pos h3] at h; simp at h
    ·rw [if_neg h3] at h
     simp only [Prod.mk.injEq, and_true] at h
     obtain ⟨rfl, rfl⟩ := h
     refine ⟨j + 1, by omega, by omega, by omega, by omega, by omega, ?_⟩
     have hsame := (same_bytes t at_ j h1 hb (by omega)).2 (by omega)
     rw [e1, extract_bytes t at_ (j + 1) (by omega), toList_eq] at hsame
     exact hsame.symm
  ·rw [dif_neg (by omega)] at h
   simp at h
theorem readVar_own {t : ByteArray} {at_ n next : Int} (h : readVarB t at_ = (n, next, true)) : 0 ≤ at_ ∧ at_ < next ∧ next ≤ t.size ∧ 0 ≤ n ∧ n ≤ 1000000000 ∧
  t.data.toList.take next.toNat = t.data.toList.take at_.toNat ++ (vtB n).data.toList := by
 unfold readVarB at h
 by_cases h0 : 0 ≤ at_ ∧ at_ ≤ t.size
 ·rw [if_pos h0] at h
  obtain ⟨m, h1, h2, h3, h4, h5, h6⟩ := rv_own t at_.toNat 5 0 rfl (by omega) (by simp [bytesAt]) n next (by simpa [bytesAt, val] using h)
  refine ⟨h0.1, by omega, by omega, h4, h5, ?_⟩
  rw [← h6, ← drop_take t m at_.toNat h3, h1, Int.toNat_natCast, List.take_add]
 ·rw [if_neg h0] at h
  simp at h
end Q
end Go.Proofs.Yteppfdkfikeclaa
