/-
Loops over a row: sizes, copies, comparisons of a row with itself.
-/
import Derived.Test.YtkimdmdkldlhpaaKCQ0
namespace Go.Proofs.Ytkimdmdkldlhpaa
open Go.RowKit Go.Proofs.YtkimdmdkldlhpaaW.PrintWords Go.Proofs.YtkimdmdkldlhpaaW.PrintLast Go.Proofs.YtkimdmdkldlhpaaW.PrintMore Go.Proofs.Ytkimdmdkldlhpaa.PA
set_option linter.unusedVariables false
set_option linter.unusedSimpArgs false
namespace Q
def Sz (g : Nat → Int → Option Int) (m : Nat) : Prop := ∀ a : Int, 0 ≤ a → a ≤ 1048576 → Ev (fun k => g k a) (if (m : Int) ≤ a then a - m else -1)
theorem Sz.id : Sz (fun _ a => some a) 0 := fun a h0 h1 => by rw [if_pos (by omega)]; simpa using Ev.now a
theorem Sz.leaf {n : Nat} (h : n ≤ 9223372036854775807) : Sz (fun _ a => if wrap64 (a - (n : Int)) < 0 then some (-1) else some (wrap64 (a - (n : Int)))) n := by
 intro a h0 h1
 show Ev (fun _ => if wrap64 (a - (n : Int)) < 0 then some (-1) else some (wrap64 (a - (n : Int)))) _
 rw [w64 (n := a - (n : Int)) (by omega) (by omega)]
 by_cases h2 : (n : Int) ≤ a
 ·rw [if_pos h2]; simp only [show ¬ (a - (n : Int) < 0) by omega, ↓reduceIte]; exact Ev.now _
 ·rw [if_neg h2]; simp only [show (a - (n : Int) < 0) by omega, ↓reduceIte]; exact Ev.now _
theorem Sz.seq {g h : Nat → Int → Option Int} {m n : Nat} (hg : Sz g m) (hh : Sz h n) : Sz (fun k a => (g k a).bind fun t => if t < 0 then some (-1) else h k t) (m + n) := by
 intro a h0 h1
 refine Ev.bind (hg a h0 h1) ?_
 by_cases h2 : (m : Int) ≤ a
 ·simp only [h2, ↓reduceIte, show ¬ (a - (m : Int) < 0) by omega]
  have e := hh (a - m) (by omega) (by omega)
  by_cases h3 : (n : Int) ≤ a - m
  ·rw [if_pos h3] at e; rw [if_pos (by omega)]; simpa [Int.sub_sub, Int.natCast_add] using e
  ·rw [if_neg h3] at e; rw [if_neg (by omega)]; exact e
 ·simp only [h2, ↓reduceIte, show (-1 : Int) < 0 by omega]
  rw [if_neg (by omega)]
  exact Ev.now _
theorem Sz.tail {g : Nat → Int → Option Int} {m : Nat} (hg : Sz g m) : Sz (fun k a => (g k a).bind fun t => if t < 0 then some (-1) else some t) m := Sz.seq hg Sz.id
theorem sum_drop {α : Type} (m : α → Nat) (xs : List α) (i : Nat) (h : i < xs.length) : ((xs.drop i).map m).sum = m xs[i] + ((xs.drop (i + 1)).map m).sum := by
 rw [List.drop_eq_getElem_cons h, List.map_cons, List.sum_cons]
theorem szLoop {α : Type} (xs : List α) (L : Nat → Int → Int → Option Int) (rdx : Int → α) (g : α → Nat → Int → Option Int) (m : α → Nat)
  (hL : ∀ k a i, L (k + 1) a i = if i < (xs.length : Int) then (if 0 ≤ i then ((g (rdx i) k a).bind fun t => if t < 0 then some (-1) else L k t (wrap64 (i + 1))) else none) else some a)
  (hr : ∀ (i : Nat) (h : i < xs.length), rdx (i : Int) = xs[i]) (hlen : xs.length ≤ 1048576) (hg : ∀ x ∈ xs, Sz (g x) (m x)) :
  Sz (fun k a => L k a 0) ((xs.map m).sum) := by
 intro a h0 h1
 refine Ev.up xs.length (fun i (a : Int) k => L k a (i : Int)) (fun i a => if ((((xs.drop i).map m).sum : Nat) : Int) ≤ a then a - (((xs.drop i).map m).sum : Nat) else -1) (fun _ a => 0 ≤ a ∧ a ≤ 1048576) ?_ ?_ 0 a (Nat.zero_le _) ⟨h0, h1⟩
 ·intro i a hi ha ih
  refine Ev.succ ?_
  simp only [hL, nat_lt, nat_0, hi, ↓reduceIte, hr i hi, up_ (show i < 4611686018427387904 by omega)]
  refine Ev.bind (hg _ (List.getElem_mem hi) a ha.1 ha.2) ?_
  rw [sum_drop m xs i hi]
  by_cases h2 : (m xs[i] : Int) ≤ a
  ·simp only [h2, ↓reduceIte, show ¬ (a - (m xs[i] : Int) < 0) by omega]
   have e := ih (a - m xs[i]) ⟨by omega, by omega⟩
   by_cases h3 : ((((xs.drop (i + 1)).map m).sum : Nat) : Int) ≤ a - m xs[i]
   ·rw [if_pos h3] at e; rw [if_pos (by omega)]; rw [show (a - ((m xs[i] + ((xs.drop (i + 1)).map m).sum : Nat) : Int)) = a - (m xs[i] : Int) - (((xs.drop (i + 1)).map m).sum : Nat) by omega]; exact e
   ·rw [if_neg h3] at e; rw [if_neg (by omega)]; exact e
  ·simp only [h2, ↓reduceIte, show (-1 : Int) < 0 by omega]
   rw [if_neg (by omega)]
   exact Ev.now _
 ·intro a ha
  refine Ev.succ ?_
  simp only [hL, nat_lt, Nat.lt_irrefl, ↓reduceIte, List.drop_length, List.map_nil, List.sum_nil]
  rw [if_pos (by omega)]
  simpa using Ev.now a
theorem szRow {F : Nat → Int → Option Int} (n : Nat) (L : Nat → Int → Int → Option Int) (hn : n ≤ 9223372036854775807)
  (hF : ∀ k a, F k a = if wrap64 (a - (n : Int)) < 0 then some (-1) else L k (wrap64 (a - (n : Int))) 0) {s : Nat} (hL : n ≤ 1048576 → Sz (fun k a => L k a 0) s) : Sz F (n + s) := by
 intro a h0 h1
 simp only [hF]
 rw [w64 (n := a - (n : Int)) (by omega) (by omega)]
 by_cases h2 : (n : Int) ≤ a
 ·simp only [show ¬ (a - (n : Int) < 0) by omega, ↓reduceIte]
  have e := hL (by omega) (a - n) (by omega) (by omega)
  by_cases h3 : (s : Int) ≤ a - n
  ·rw [if_pos h3] at e; rw [if_pos (by omega)]; simpa [Int.sub_sub, Int.natCast_add] using e
  ·rw [if_neg h3] at e; rw [if_neg (by omega)]; exact e
 ·simp only [show (a - (n : Int) < 0) by omega, ↓reduceIte]
  rw [if_neg (by omega)]
  exact Ev.now _
theorem toLoop {α β γ : Type} (xs : List α) (z : β) (T : Nat → List β → Int → Option (List β)) (rdx : Int → α) (h : α → Nat → Option γ) (mk : γ → β) (φ : α → β)
  (hT : ∀ k acc i, T (k + 1) acc i = if i < (xs.length : Int) then (if 0 ≤ i then ((h (rdx i) k).bind fun b => if i < (acc.length : Int) then T k (acc.set (i : Int).toNat (mk b)) (wrap64 (i + 1)) else none) else none) else some acc)
  (hr : ∀ (i : Nat) (h : i < xs.length), rdx (i : Int) = xs[i]) (hlen : xs.length ≤ 1048576) (hh : ∀ x ∈ xs, ∃ b, Ev (h x) b ∧ mk b = φ x) :
  Ev (fun k => T k (List.replicate xs.length z) 0) (xs.map φ) := by
 rw [← fill_0 xs φ z]
 refine Ev.up0 xs.length (fun i k => T k ((xs.take i).map φ ++ List.replicate (xs.length - i) z) i) (fun _ => xs.map φ) ?_ ?_ 0 (Nat.zero_le _)
 ·intro i hi hn
  refine Ev.succ ?_
  simp only [hT, nat_lt, nat_0, hi, ↓reduceIte, hr i hi, fill_len xs φ z i (by omega), Int.toNat_natCast, up_ (show i < 4611686018427387904 by omega)]
  obtain ⟨b, h1, h2⟩ := hh _ (List.getElem_mem hi)
  refine Ev.bind h1 ?_
  rw [h2]
  have e := fill_ xs φ z i hi
  rw [e]
  exact hn
 ·refine Ev.succ ?_
  simp only [hT, nat_lt, Nat.lt_irrefl, ↓reduceIte]
  rw [fill_n]
  exact Ev.now _
theorem toRow {α β : Type} {F : Nat → Option (List β)} (xs : List α) (z : β) (C : Nat) (T : Nat → List β → Int → Option (List β)) (φ : α → β) (hC : xs.length ≤ C)
  (hF : ∀ k, F k = if 0 ≤ (xs.length : Int) then (if ((xs.length : Int) : Int).toNat ≤ C then T k (List.replicate ((xs.length : Int) : Int).toNat z) 0 else none) else none)
  (hT : Ev (fun k => T k (List.replicate xs.length z) 0) (xs.map φ)) : Ev F (xs.map φ) := by
 refine Ev.congr hF ?_
 simp only [nat_0, ↓reduceIte, Int.toNat_natCast, hC]
 exact hT
theorem eqLoop {α : Type} (xs : List α) (E : Nat → Int → Option Bool) (rdx : Int → α) (e : α → Nat → Option Bool)
  (hE : ∀ k i, E (k + 1) i = if i < (xs.length : Int) then (if 0 ≤ i then (if i < (xs.length : Int) then ((e (rdx i) k).bind fun t => if t = true then E k (wrap64 (i + 1)) else some false) else none) else none) else some true)
  (hr : ∀ (i : Nat) (h : i < xs.length), rdx (i : Int) = xs[i]) (hlen : xs.length ≤ 1048576) (he : ∀ x ∈ xs, Ev (e x) true) : Ev (fun k => E k 0) true := by
 refine Ev.up0 xs.length (fun i k => E k (i : Int)) (fun _ => true) ?_ ?_ 0 (Nat.zero_le _)
 ·intro i hi hn
  refine Ev.succ ?_
  simp only [hE, nat_lt, nat_0, hi, ↓reduceIte, hr i hi, up_ (show i < 4611686018427387904 by omega)]
  refine Ev.bind (he _ (List.getElem_mem hi)) ?_
  simp only [↓reduceIte]
  exact hn
 ·refine Ev.succ ?_
  simp only [hE, nat_lt, Nat.lt_irrefl, ↓reduceIte]
  exact Ev.now _
theorem le_sum {α : Type} (m : α → Nat) : ∀ {l : List α} {x : α}, x ∈ l → m x ≤ (l.map m).sum := by
 intro l
 induction l with
 | nil => intro x hx; simp at hx
 | cons y l ih =>
  intro x hx
  simp only [List.map_cons, List.sum_cons]
  rcases List.mem_cons.mp hx with rfl | h
  ·omega
  ·have := ih h; omega
theorem Ev.tt {g : Nat → Option Bool} {f : Nat → Option Bool} (h : Ev g true) (k : Ev f true) : Ev (fun n => (g n).bind fun t => if t = true then f n else some false) true := by
 refine Ev.bind h ?_
 simp only [↓reduceIte]
 exact k
end Q
end Go.Proofs.Ytkimdmdkldlhpaa
