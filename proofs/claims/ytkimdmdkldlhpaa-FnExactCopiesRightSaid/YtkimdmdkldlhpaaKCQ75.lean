/-
Items by their texts: putting one in, all of a list put in, and that it does not matter in which order.
-/
import Derived.Test.YtkimdmdkldlhpaaKCQ74
namespace Go.Proofs.Ytkimdmdkldlhpaa
open Go.RowKit Go.Proofs.YtkimdmdkldlhpaaW.PrintWords Go.Proofs.YtkimdmdkldlhpaaW.PrintLast Go.Proofs.YtkimdmdkldlhpaaW.PrintMore Go.Proofs.Ytkimdmdkldlhpaa.PA
set_option linter.unusedVariables false
set_option linter.unusedSimpArgs false
namespace Q
theorem u8_tri (x y : UInt8) : (x < y ∧ ¬ y < x ∧ x ≠ y) ∨ x = y ∨ (y < x ∧ ¬ x < y ∧ x ≠ y) := by
 rcases Nat.lt_trichotomy x.toNat y.toNat with h | h | h
 ·exact .inl ⟨h, fun z => absurd (show y.toNat < x.toNat from z) (by omega), fun e => by rw [e] at h; omega⟩
 ·exact .inr (.inl (UInt8.toNat_inj.mp h))
 ·exact .inr (.inr ⟨h, fun z => absurd (show x.toNat < y.toNat from z) (by omega), fun e => by rw [e] at h; omega⟩)
theorem bl_irr : ∀ a : List UInt8, Op.bytesLess a a = false
 | [] => rfl
 | x :: a => by
  have h : ¬ x < x := fun z => absurd (show x.toNat < x.toNat from z) (by omega)
  simp [Op.bytesLess, h, bl_irr a]
theorem bl_trans : ∀ a b c : List UInt8, Op.bytesLess a b = true → Op.bytesLess b c = true → Op.bytesLess a c = true
 | _, [], _, h, _ => by simp [Op.bytesLess] at h
 | _, _ :: _, [], _, h => by simp [Op.bytesLess] at h
 | [], _ :: _, _ :: _, _, _ => rfl
 | x :: a, y :: b, z :: c, h, k => by
  simp only [Op.bytesLess, Bool.or_eq_true, decide_eq_true_eq, Bool.and_eq_true, beq_iff_eq] at h k ⊢
  rcases h with h | ⟨rfl, h⟩
  ·rcases k with k | ⟨rfl, k⟩
   ·exact .inl (show x.toNat < z.toNat from Nat.lt_trans (show x.toNat < y.toNat from h) (show y.toNat < z.toNat from k))
   ·exact .inl h
  ·rcases k with k | ⟨rfl, k⟩
   ·exact .inl k
   ·exact .inr ⟨rfl, bl_trans a b c h k⟩
theorem bl_tri : ∀ a b : List UInt8, Op.bytesLess a b = true ∨ a = b ∨ Op.bytesLess b a = true
 | [], [] => .inr (.inl rfl)
 | [], _ :: _ => .inl rfl
 | _ :: _, [] => .inr (.inr rfl)
 | x :: a, y :: b => by
  rcases u8_tri x y with ⟨h, _, _⟩ | rfl | ⟨h, _, _⟩
  ·exact .inl (by simp [Op.bytesLess, h])
  ·rcases bl_tri a b with k | rfl | k
   ·exact .inl (by simp [Op.bytesLess, k])
   ·exact .inr (.inl rfl)
   ·exact .inr (.inr (by simp [Op.bytesLess, k]))
  ·exact .inr (.inr (by simp [Op.bytesLess, h]))
theorem cmp_less : ∀ a b : List UInt8, Lib.compareBytes a b < 0 ↔ Op.bytesLess a b = true
 | [], [] => by simp [Lib.compareBytes, Op.bytesLess]
 | [], _ :: _ => by simp [Lib.compareBytes, Op.bytesLess]
 | _ :: _, [] => by simp [Lib.compareBytes, Op.bytesLess]
 | x :: a, y :: b => by
  rcases u8_tri x y with ⟨h, h2, h3⟩ | rfl | ⟨h, h2, h3⟩
  ·simp [Lib.compareBytes, Op.bytesLess, h]
  ·have h : ¬ x < x := fun z => absurd (show x.toNat < x.toNat from z) (by omega)
   simp [Lib.compareBytes, Op.bytesLess, h, cmp_less a b]
  ·simp [Lib.compareBytes, Op.bytesLess, h, h2, h3]
def lessB (a b : ByteArray) : Bool := Op.bytesLess a.toList b.toList
theorem less_irr (a : ByteArray) : lessB a a = false := bl_irr _
theorem less_trans {a b c : ByteArray} (h : lessB a b = true) (k : lessB b c = true) : lessB a c = true := bl_trans _ _ _ h k
theorem less_tri (a b : ByteArray) : lessB a b = true ∨ a = b ∨ lessB b a = true := by
 rcases bl_tri a.toList b.toList with h | h | h
 ·exact .inl h
 ·exact .inr (.inl (toList_inj h))
 ·exact .inr (.inr h)
theorem less_asym {a b : ByteArray} (h : lessB a b = true) : lessB b a = false := by
 cases k : lessB b a
 ·rfl
 ·have := less_trans h k
  rw [less_irr] at this
  exact this.symm
theorem less_ne {a b : ByteArray} (h : lessB a b = true) : a ≠ b := by
 rintro rfl
 rw [less_irr] at h
 exact Bool.noConfusion h
theorem not_less {a b : ByteArray} (h : lessB b a = false) : lessB a b = true ∨ a = b := by
 rcases less_tri a b with k | k | k
 ·exact .inl k
 ·exact .inr k
 ·rw [h] at k; exact Bool.noConfusion k
def insI (x : Itm) : List Itm → List Itm
 | [] => [x]
 | y :: ys => if y.f0 = x.f0 then ⟨y.f0, y.f1 || x.f1⟩ :: ys else if lessB x.f0 y.f0 = true then x :: y :: ys else y :: insI x ys
def SS (l : List Itm) : Prop := l.Pairwise fun x y => lessB x.f0 y.f0 = true
def putAll (acc l : List Itm) : List Itm := l.foldl (fun a x => insI x a) acc
theorem ins_len (x : Itm) : ∀ l, (insI x l).length ≤ l.length + 1
 | [] => by simp [insI]
 | y :: ys => by
  unfold insI
  split
  ·simp
  ·split
   ·simp
   ·have := ins_len x ys; simp; omega
theorem put_len : ∀ (l acc : List Itm), (putAll acc l).length ≤ acc.length + l.length
 | [], acc => by simp [putAll]
 | x :: l, acc => by
  have h1 := put_len l (insI x acc)
  have h2 := ins_len x acc
  have e : putAll acc (x :: l) = putAll (insI x acc) l := rfl
  rw [e, List.length_cons]
  omega
theorem ins_text (x : Itm) : ∀ (l : List Itm) (t : ByteArray), (∃ z ∈ insI x l, z.f0 = t) ↔ (x.f0 = t ∨ ∃ z ∈ l, z.f0 = t)
 | [], t => by simp [insI]
 | y :: ys, t => by
  unfold insI
  split
  ·rename_i e
   simp only [List.mem_cons, exists_eq_or_imp]
   rw [← e]
   constructor
   ·rintro (h | h)
    ·exact .inl h
    ·exact .inr (.inr h)
   ·rintro (h | h | h)
    ·exact .inl h
    ·exact .inl h
    ·exact .inr h
  ·split
   ·simp only [List.mem_cons, exists_eq_or_imp]
   ·simp only [List.mem_cons, exists_eq_or_imp]
    rw [ins_text x ys t]
    constructor
    ·rintro (h | h | h)
     ·exact .inr (.inl h)
     ·exact .inl h
     ·exact .inr (.inr h)
    ·rintro (h | h | h)
     ·exact .inr (.inl h)
     ·exact .inl h
     ·exact .inr (.inr h)
theorem ins_ss (x : Itm) : ∀ l, SS l → SS (insI x l)
 | [], _ => by simp [insI, SS]
 | y :: ys, h => by
  unfold SS at h ⊢
  rw [List.pairwise_cons] at h
  unfold insI
  split
  ·exact List.pairwise_cons.2 ⟨fun z hz => h.1 z hz, h.2⟩
  ·rename_i e
   split
   ·rename_i k
    exact List.pairwise_cons.2 ⟨fun z hz => by
     rcases List.mem_cons.1 hz with rfl | hz
     ·exact k
     ·exact less_trans k (h.1 z hz), List.pairwise_cons.2 h⟩
   ·rename_i k
    refine List.pairwise_cons.2 ⟨fun z hz => ?_, ins_ss x ys h.2⟩
    have hxy : lessB y.f0 x.f0 = true := by
     rcases less_tri y.f0 x.f0 with q | q | q
     ·exact q
     ·exact absurd q e
     ·exact absurd q k
    rcases (ins_text x ys z.f0).1 ⟨z, hz, rfl⟩ with q | ⟨v, hv, q⟩
    ·rw [← q]; exact hxy
    ·rw [← q]; exact h.1 v hv
theorem put_ss : ∀ (l acc : List Itm), SS acc → SS (putAll acc l)
 | [], _, h => h
 | x :: l, acc, h => put_ss l (insI x acc) (ins_ss x acc h)
structure Can (l m : List Itm) : Prop where
 ss : SS m
 text : ∀ t, (∃ z ∈ m, z.f0 = t) ↔ ∃ z ∈ l, z.f0 = t
 said_ : ∀ z ∈ m, z.f1 = true ↔ ∃ y ∈ l, y.f0 = z.f0 ∧ y.f1 = true
theorem ins_mem (x : Itm) : ∀ (l : List Itm), SS l → ∀ z ∈ insI x l, (z.f0 ≠ x.f0 ∧ z ∈ l) ∨ (z.f0 = x.f0 ∧ (z.f1 = true ↔ x.f1 = true ∨ ∃ y ∈ l, y.f0 = x.f0 ∧ y.f1 = true))
 | [], _, z, hz => by
  rw [insI, List.mem_singleton] at hz
  subst hz
  exact .inr ⟨rfl, by simp⟩
 | y :: ys, h, z, hz => by
  have h' := h
  unfold SS at h
  rw [List.pairwise_cons] at h
  unfold insI at hz
  by_cases e : y.f0 = x.f0
  ·rw [if_pos e] at hz
   have no : ∀ v ∈ ys, v.f0 ≠ x.f0 := fun v hv q => less_ne (h.1 v hv) (e.trans q.symm)
   rcases List.mem_cons.1 hz with rfl | hz
   ·refine .inr ⟨e, ?_⟩
    simp only [Bool.or_eq_true]
    constructor
    ·rintro (q | q)
     ·exact .inr ⟨y, List.mem_cons_self, e, q⟩
     ·exact .inl q
    ·rintro (q | ⟨v, hv, q1, q2⟩)
     ·exact .inr q
     ·rcases List.mem_cons.1 hv with rfl | hv
      ·exact .inl q2
      ·exact absurd q1 (no v hv)
   ·exact .inl ⟨no z hz, List.mem_cons_of_mem _ hz⟩
  ·rw [if_neg e] at hz
   by_cases k : lessB x.f0 y.f0 = true
   ·rw [if_pos k] at hz
    have no : ∀ v ∈ y :: ys, v.f0 ≠ x.f0 := by
     intro v hv q
     rcases List.mem_cons.1 hv with rfl | hv
     ·exact e q
     ·have := less_trans k (h.1 v hv)
      exact less_ne this q.symm
    rcases List.mem_cons.1 hz with rfl | hz
    ·refine .inr ⟨rfl, ?_⟩
     constructor
     ·exact fun q => .inl q
     ·rintro (q | ⟨v, hv, q1, _⟩)
      ·exact q
      ·exact absurd q1 (no v hv)
    ·exact .inl ⟨no z hz, hz⟩
   ·rw [if_neg k] at hz
    rcases List.mem_cons.1 hz with rfl | hz
    ·exact .inl ⟨e, List.mem_cons_self⟩
    ·rcases ins_mem x ys h.2 z hz with ⟨q1, q2⟩ | ⟨q1, q2⟩
     ·exact .inl ⟨q1, List.mem_cons_of_mem _ q2⟩
     ·refine .inr ⟨q1, q2.trans ?_⟩
      constructor
      ·rintro (q | ⟨v, hv, q⟩)
       ·exact .inl q
       ·exact .inr ⟨v, List.mem_cons_of_mem _ hv, q⟩
      ·rintro (q | ⟨v, hv, q⟩)
       ·exact .inl q
       ·rcases List.mem_cons.1 hv with rfl | hv
        ·exact absurd q.1 e
        ·exact .inr ⟨v, hv, q⟩
theorem Can.put {l m : List Itm} (h : Can l m) (x : Itm) : Can (l ++ [x]) (insI x m) := by
 refine ⟨ins_ss x m h.ss, fun t => ?_, fun z hz => ?_⟩
 ·rw [ins_text, h.text]
  constructor
  ·rintro (q | ⟨v, hv, q⟩)
   ·exact ⟨x, by simp, q⟩
   ·exact ⟨v, by simp [hv], q⟩
  ·rintro ⟨v, hv, q⟩
   rcases List.mem_append.1 hv with hv | hv
   ·exact .inr ⟨v, hv, q⟩
   ·rw [List.mem_singleton.1 hv] at q; exact .inl q
 ·rcases ins_mem x m h.ss z hz with ⟨q1, q2⟩ | ⟨q1, q2⟩
  ·rw [h.said_ z q2]
   constructor
   ·rintro ⟨v, hv, q⟩
    exact ⟨v, by simp [hv], q⟩
   ·rintro ⟨v, hv, q⟩
    rcases List.mem_append.1 hv with hv | hv
    ·exact ⟨v, hv, q⟩
    ·rw [List.mem_singleton.1 hv] at q; exact absurd q.1.symm q1
  ·rw [q2, q1]
   constructor
   ·rintro (q | ⟨v, hv, q3, q4⟩)
    ·exact ⟨x, by simp, rfl, q⟩
    ·obtain ⟨y, hy, q5, q6⟩ := (h.said_ v hv).1 q4
     exact ⟨y, by simp [hy], q5.trans q3, q6⟩
   ·rintro ⟨v, hv, q3, q4⟩
    rcases List.mem_append.1 hv with hv | hv
    ·obtain ⟨y, hy, q5⟩ := (h.text x.f0).2 ⟨v, hv, q3⟩
     exact .inr ⟨y, hy, q5, (h.said_ y hy).2 ⟨v, hv, q3.trans q5.symm, q4⟩⟩
    ·rw [List.mem_singleton.1 hv] at q4; exact .inl q4
theorem Can.puts : ∀ (r : List Itm) {l m : List Itm}, Can l m → Can (l ++ r) (putAll m r)
 | [], l, m, h => by simpa [putAll] using h
 | x :: r, l, m, h => by
  have := Can.puts r (h.put x)
  rwa [List.append_assoc] at this
theorem can_nil : Can [] [] := ⟨.nil, fun t => Iff.rfl, fun z hz => absurd hz (List.not_mem_nil)⟩
theorem ss_ext : ∀ {a b : List Itm}, SS a → SS b → (∀ x, x ∈ a ↔ x ∈ b) → a = b
 | [], [], _, _, _ => rfl
 | [], y :: b, _, _, h => absurd ((h y).2 List.mem_cons_self) (List.not_mem_nil)
 | x :: a, [], _, _, h => absurd ((h x).1 List.mem_cons_self) (List.not_mem_nil)
 | x :: a, y :: b, ha, hb, h => by
  unfold SS at ha hb
  rw [List.pairwise_cons] at ha hb
  have e : x = y := by
   rcases List.mem_cons.1 ((h x).1 List.mem_cons_self) with e | h1
   ·exact e
   ·rcases List.mem_cons.1 ((h y).2 List.mem_cons_self) with e | h2
    ·exact e.symm
    ·have := less_asym (hb.1 x h1)
     rw [ha.1 y h2] at this
     exact Bool.noConfusion this
  subst e
  refine congrArg _ (ss_ext ha.2 hb.2 fun z => ?_)
  constructor
  ·intro hz
   rcases List.mem_cons.1 ((h z).1 (List.mem_cons_of_mem _ hz)) with rfl | q
   ·exact absurd rfl (less_ne (ha.1 z hz))
   ·exact q
  ·intro hz
   rcases List.mem_cons.1 ((h z).2 (List.mem_cons_of_mem _ hz)) with rfl | q
   ·exact absurd rfl (less_ne (hb.1 z hz))
   ·exact q
theorem Can.same {l r a b : List Itm} (ha : Can l a) (hb : Can r b) (hm : ∀ x, x ∈ l ↔ x ∈ r) : a = b := by
 have one : ∀ {l r a b : List Itm}, Can l a → Can r b → (∀ x, x ∈ l ↔ x ∈ r) → ∀ x ∈ a, x ∈ b := by
  intro l r a b ha hb hm x hx
  obtain ⟨v, hv, q⟩ := (ha.text x.f0).1 ⟨x, hx, rfl⟩
  obtain ⟨y, hy, q2⟩ := (hb.text x.f0).2 ⟨v, (hm v).1 hv, q⟩
  have e : y = x := by
   have h1 := ha.said_ x hx
   have h2 := hb.said_ y hy
   obtain ⟨x0, x1⟩ := x
   obtain ⟨y0, y1⟩ := y
   simp only at q2 h1 h2 ⊢
   subst q2
   have : (y1 = true) ↔ (x1 = true) := by
    rw [h1, h2]
    constructor
    ·rintro ⟨v, hv, q⟩; exact ⟨v, (hm v).2 hv, q⟩
    ·rintro ⟨v, hv, q⟩; exact ⟨v, (hm v).1 hv, q⟩
   rw [show y1 = x1 by cases y1 <;> cases x1 <;> simp_all]
  rw [← e]
  exact hy
 exact ss_ext ha.ss hb.ss fun x => ⟨one ha hb hm x, one hb ha (fun x => (hm x).symm) x⟩
theorem putAll_perm {l r : List Itm} (h : l.Perm r) : putAll [] l = putAll [] r := by
 have a := can_nil.puts l
 have b := can_nil.puts r
 exact Can.same a b fun x => by simpa using h.mem_iff
theorem can_self {l : List Itm} (h : SS l) : Can l l := ⟨h, fun t => Iff.rfl, fun z hz => ⟨fun q => ⟨z, hz, rfl, q⟩, fun ⟨y, hy, q1, q2⟩ => by
 have e : y = z := by
  rcases List.mem_iff_getElem.1 hy with ⟨i, hi, rfl⟩
  rcases List.mem_iff_getElem.1 hz with ⟨j, hj, rfl⟩
  have hp := List.pairwise_iff_getElem.1 h
  rcases Nat.lt_trichotomy i j with k | k | k
  ·exact absurd q1 (less_ne (hp i j hi hj k))
  ·subst k; rfl
  ·exact absurd q1.symm (less_ne (hp j i hj hi k))
 rw [← e]; exact q2⟩⟩
theorem putAll_self {l : List Itm} (h : SS l) : putAll [] l = l := by
 have a := can_nil.puts l
 exact Can.same a (can_self h) fun x => by simp
theorem putAll_app (a b c : List Itm) : putAll a (b ++ c) = putAll (putAll a b) c := List.foldl_append
theorem ins_end (x : Itm) : ∀ (p r : List Itm), (∀ o ∈ p, lessB o.f0 x.f0 = true) → insI x (p ++ r) = p ++ insI x r
 | [], r, _ => rfl
 | y :: p, r, h => by
  have h1 := h y List.mem_cons_self
  rw [List.cons_append, insI, if_neg (less_ne h1), if_neg (by rw [less_asym h1]; decide), ins_end x p r (fun o ho => h o (List.mem_cons_of_mem _ ho)), List.cons_append]
end Q
end Go.Proofs.Ytkimdmdkldlhpaa
