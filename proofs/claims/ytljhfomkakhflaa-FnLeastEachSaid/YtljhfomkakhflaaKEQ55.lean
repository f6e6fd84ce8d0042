/-
Where the circles that words tell of are six, no least size stands at the greatest that is told: of each person a fact is told by name, so that a person has five others at most; the first one of these is no more than two more than what was there, each of the others no more than twice and one.
-/
import Derived.Test.YtljhfomkakhflaaKEQ54
namespace Go.Proofs.Ytljhfomkakhflaa
open Go.RowKit Go.Proofs.YtljhfomkakhflaaW.PrintWords Go.Proofs.YtljhfomkakhflaaW.PrintLast Go.Proofs.YtljhfomkakhflaaW.PrintMore Go.Proofs.Ytljhfomkakhflaa.PA
set_option linter.unusedVariables false
set_option linter.unusedSimpArgs false
namespace Q
theorem countP_le_ {α : Type} {p q : α → Bool} : ∀ l : List α, (∀ x ∈ l, p x = true → q x = true) → l.countP p ≤ l.countP q := by
 intro l
 induction l with
 | nil => intro _; simp
 | cons x l ih =>
  intro h
  have i := ih (fun y hy => h y (List.mem_cons_of_mem _ hy))
  have hx := h x (List.mem_cons_self ..)
  rw [List.countP_cons, List.countP_cons]
  cases hp : p x
  ·cases hq : q x <;> simp <;> omega
  ·rw [hx hp]; simp; omega
theorem countP_lt_ {α : Type} {p q : α → Bool} : ∀ l : List α, (∀ x ∈ l, p x = true → q x = true) → (∃ x ∈ l, q x = true ∧ p x = false) → l.countP p < l.countP q := by
 intro l
 induction l with
 | nil => intro _ h; obtain ⟨x, hx, _⟩ := h; simp at hx
 | cons x l ih =>
  intro h he
  have hm : ∀ y ∈ l, p y = true → q y = true := fun y hy => h y (List.mem_cons_of_mem _ hy)
  have i0 := countP_le_ l hm
  have hx := h x (List.mem_cons_self ..)
  rw [List.countP_cons, List.countP_cons]
  obtain ⟨y, hy, hq, hp⟩ := he
  rcases List.mem_cons.1 hy with rfl | hy
  ·rw [hq, hp]; simp; omega
  ·have i := ih hm ⟨y, hy, hq, hp⟩
   cases hp2 : p x
   ·cases hq2 : q x <;> simp <;> omega
   ·rw [hx hp2]; simp; omega
theorem countP_full {α : Type} {p : α → Bool} (l : List α) (h : ∃ x ∈ l, p x = false) : l.countP p + 1 ≤ l.length := by
 have := countP_lt_ (p := p) (q := fun _ => true) l (fun _ _ _ => rfl) (by obtain ⟨x, hx, e⟩ := h; exact ⟨x, hx, rfl, e⟩)
 have e : l.countP (fun _ => true) = l.length := by simp
 omega
theorem nsum_le {f g : Int → Nat} : ∀ l : List Int, (∀ q ∈ l, f q ≤ g q) → (l.map f).sum ≤ (l.map g).sum := by
 intro l
 induction l with
 | nil => intro _; simp
 | cons x l ih =>
  intro h
  have i := ih (fun y hy => h y (List.mem_cons_of_mem _ hy))
  have hx := h x (List.mem_cons_self ..)
  simp only [List.map_cons, List.sum_cons]
  omega
theorem nsum_lt {f g : Int → Nat} : ∀ l : List Int, (∀ q ∈ l, f q ≤ g q) → (∃ q ∈ l, f q < g q) → (l.map f).sum < (l.map g).sum := by
 intro l
 induction l with
 | nil => intro _ h; obtain ⟨x, hx, _⟩ := h; simp at hx
 | cons x l ih =>
  intro h he
  have hm : ∀ y ∈ l, f y ≤ g y := fun y hy => h y (List.mem_cons_of_mem _ hy)
  have i0 := nsum_le l hm
  have hx := h x (List.mem_cons_self ..)
  simp only [List.map_cons, List.sum_cons]
  obtain ⟨y, hy, e⟩ := he
  rcases List.mem_cons.1 hy with rfl | hy
  ·omega
  ·have i := ih hm ⟨y, hy, e⟩; omega
def six : List Rl := [⟨0, 0⟩, ⟨0, 1⟩, ⟨1, 0⟩, ⟨1, 1⟩, ⟨2, 0⟩, ⟨2, 1⟩]
theorem mem_six {x : Rl} (h : (0 ≤ x.f0 ∧ x.f0 < 3) ∧ 0 ≤ x.f1 ∧ x.f1 < 2) : x ∈ six := by
 obtain ⟨a, b⟩ := x
 simp only at h
 have ha : a = 0 ∨ a = 1 ∨ a = 2 := by omega
 have hb : b = 0 ∨ b = 1 := by omega
 rcases ha with rfl | rfl | rfl <;> rcases hb with rfl | rfl <;> simp [six]
section
variable (list : List Cr) (F : List Fc) (r : List Int)
structure Szs : Prop where
 right : Right F
 nod : F.Nodup
 good : GoodS list F r
 fix : FixedS list F r
 reach : ∀ i : Nat, i < F.length → ∃ t, Ach list F i t
 six : Six list
end
section
variable {list : List Cr} {F : List Fc} {r : List Int}
abbrev fc (F : List Fc) (i : Int) : Fc := rd_T28 F i
def At (F : List Fc) (i : Int) : Prop := 0 ≤ i ∧ i < (F.length : Int)
theorem Szs.pos (h : Szs list F r) {i : Int} (hi : At F i) : 1 ≤ rd r i ∧ rd r i ≤ 1000001 := good_range h.good hi.1 hi.2
theorem Szs.ach (h : Szs list F r) {i : Int} (hi : At F i) : ∃ t, Ach list F i t := by
 have := h.reach i.toNat (by have := hi.1; have := hi.2; omega)
 rwa [Int.toNat_of_nonneg hi.1] at this
theorem Szs.kinds (h : Szs list F r) {c : Cr} (hc : c ∈ list) (ok : cOk c = true) {i : Int} (hi : At F i) {fr : List Int} (hw : Way F c (fc F i) fr) :
  (fc F i).f0 = c.f1 ∧ (fr = [] ∨ (∃ a, fr = [a] ∧ At F a ∧ (fc F a).f1 = (fc F i).f1) ∨ ∃ a b, fr = [a, b] ∧ At F a ∧ At F b ∧ ((fc F a).f1 = (fc F i).f1 ∨ (fc F a).f1 = (fc F b).f0.f0) ∧ (fc F b).f1 = (fc F i).f1) := by
 rcases cOk_kind ok with k | k | k | k
 ·obtain ⟨e, rfl⟩ := (way1 k).1 hw
  exact ⟨by rw [e], .inl rfl⟩
 ·obtain ⟨e, a, ha, e2, rfl⟩ := (way2 h.right k).1 hw
  exact ⟨e, .inr (.inl ⟨a, rfl, ha, by simp only [fc] at e2 ⊢; rw [e2]⟩)⟩
 ·obtain ⟨e, a, b, ⟨ha, e1⟩, ⟨hb, e2⟩, rfl⟩ := (way3 h.right k).1 hw
  exact ⟨e, .inr (.inr ⟨a, b, rfl, ha, hb, .inr (by simp only [fc] at e2 ⊢; rw [e2]), by simp only [fc] at e2 ⊢; rw [e2]⟩)⟩
 ·obtain ⟨e, a, b, ⟨ha, e1⟩, ⟨hb, e2⟩, rfl⟩ := (way4 h.right h.nod k).1 hw
  exact ⟨e, .inr (.inr ⟨a, b, rfl, ha, hb, .inl (by simp only [fc] at e1 ⊢; rw [e1]), by simp only [fc] at e2 ⊢; rw [e2]⟩)⟩
theorem ach_parts {i t : Int} (h : Ach list F i t) : At F i ∧ ∃ c ∈ list, cOk c = true ∧ ∃ fr, Way F c (fc F i) fr ∧ ∃ s : Int → Int, t = capI (1 + (fr.map s).sum) ∧ ∀ a ∈ fr, Ach list F a (s a) := by
 obtain ⟨i, c, hc, ok, d, hd, h0, h1, hf, s, hs⟩ := h
 exact ⟨⟨h0, h1⟩, c, hc, ok, d.f1, by unfold Way fc; rw [hf]; exact hd, s, rfl, hs⟩
theorem Szs.circle (h : Szs list F r) {i t : Int} (ha : Ach list F i t) : (fc F i).f0 ∈ Q.six := by
 obtain ⟨hi, c, hc, ok, fr, hw, _⟩ := ach_parts ha
 rw [(h.kinds hc ok hi hw).1]
 exact mem_six (h.six c hc)
theorem Szs.le_way (h : Szs list F r) {c : Cr} (hc : c ∈ list) (ok : cOk c = true) {i : Int} (hi : At F i) {fr : List Int} (hw : Way F c (fc F i) fr) : rd r i ≤ szB r fr 1 := by
 have := h.fix c hc ok _ hw i.toNat (by have := hi.2; have := hi.1; omega) (by show rd_T28 F ((i.toNat : Nat) : Int) = _; rw [Int.toNat_of_nonneg hi.1])
 rwa [Int.toNat_of_nonneg hi.1] at this
theorem Szs.named (h : Szs list F r) {i t : Int} (ha : Ach list F i t) : ∃ j, At F j ∧ (fc F j).f0 ∈ Q.six ∧ (fc F j).f1 = (fc F i).f1 ∧ rd r j = 1 := by
 induction ha with
 | mk i c hc ok d hd h0 h1 hf s hs ih =>
  have hi : At F i := ⟨h0, h1⟩
  have hw : Way F c (fc F i) d.f1 := by unfold Way fc; rw [hf]; exact hd
  have hk := h.kinds hc ok hi hw
  rcases hk.2 with e | ⟨a, e, ha, ea⟩ | ⟨a, b, e, ha, hb, _, eb⟩
  ·have hl := h.le_way hc ok hi hw
   rw [e] at hl
   have : szB r [] 1 = 1 := by simp [szB, capI]
   have := (h.pos hi).1
   exact ⟨i, hi, by rw [hk.1]; exact mem_six (h.six c hc), rfl, by omega⟩
  ·obtain ⟨j, h1, h2, h3, h4⟩ := ih a (by rw [e]; simp)
   exact ⟨j, h1, h2, h3.trans ea, h4⟩
  ·obtain ⟨j, h1, h2, h3, h4⟩ := ih b (by rw [e]; simp)
   exact ⟨j, h1, h2, h3.trans eb, h4⟩
def cnd (F : List Fc) (r : List Int) (q v : Int) (c : Rl) : Bool := decide (0 ≤ atF F c q ∧ 1 < rd r (atF F c q) ∧ rd r (atF F c q) ≤ v)
def cntD (F : List Fc) (r : List Int) (q v : Int) : Nat := Q.six.countP (cnd F r q v)
theorem cnd_at (h : Szs list F r) {i : Int} (hi : At F i) (v : Int) : cnd F r (fc F i).f1 v (fc F i).f0 = decide (1 < rd r i ∧ rd r i ≤ v) := by
 have e : atF F (fc F i).f0 (fc F i).f1 = i := atF_at h.nod hi rfl
 have := hi.1
 unfold cnd
 rw [e]
 simp [this]
theorem cntD_mono {q v v' : Int} (hv : v ≤ v') : cntD F r q v ≤ cntD F r q v' := by
 refine countP_le_ _ fun c _ hc => ?_
 have := of_decide_eq_true hc
 exact decide_eq_true ⟨this.1, this.2.1, by omega⟩
theorem cntD_lt (h : Szs list F r) {i t v v' : Int} (ha : Ach list F i t) (hv : v < v') (h1 : 1 < rd r i) (h2 : v < rd r i) (h3 : rd r i ≤ v') : cntD F r (fc F i).f1 v < cntD F r (fc F i).f1 v' := by
 have hi := (ach_parts ha).1
 refine countP_lt_ _ (fun c _ hc => ?_) ⟨(fc F i).f0, h.circle ha, ?_, ?_⟩
 ·have := of_decide_eq_true hc
  exact decide_eq_true ⟨this.1, this.2.1, by omega⟩
 ·rw [cnd_at h hi]; exact decide_eq_true ⟨h1, h3⟩
 ·rw [cnd_at h hi]; exact decide_eq_false (by omega)
theorem cntD_5 (h : Szs list F r) {q v : Int} : cntD F r q v ≤ 5 := by
 by_cases hz : cntD F r q v = 0
 ·omega
 ·obtain ⟨c, hc, hp⟩ := List.countP_pos_iff.1 (Nat.pos_of_ne_zero hz)
  have hd := of_decide_eq_true hp
  rcases atF_pos F c q with ⟨e, _⟩ | ⟨hi, e⟩
  ·omega
  ·have hn : (atF F c q).toNat < F.length := by omega
   obtain ⟨t, ht⟩ := h.ach hi
   obtain ⟨j, j1, j2, j3, j4⟩ := h.named ht
   have e3 : (fc F (atF F c q)).f1 = q := by simp only [fc]; rw [e]
   have := countP_full (p := cnd F r q v) Q.six ⟨(fc F j).f0, j2, by
    have := cnd_at h j1 v
    rw [j3, e3] at this
    rw [this]
    exact decide_eq_false (by omega)⟩
   have hl : Q.six.length = 6 := rfl
   unfold cntD
   omega
def numA (F : List Fc) (r : List Int) (T : List Int) (v : Int) : Nat := (T.map fun q => min 1 (cntD F r q v)).sum
def numB (F : List Fc) (r : List Int) (T : List Int) (v : Int) : Nat := (T.map fun q => cntD F r q v - 1).sum
def phi (F : List Fc) (r : List Int) (T : List Int) (v : Int) : Nat := (2 + 2 * numA F r T v) * 2 ^ numB F r T v
theorem phi_mono {T : List Int} {v v' : Int} (hv : v ≤ v') : phi F r T v ≤ phi F r T v' := by
 have a : numA F r T v ≤ numA F r T v' := nsum_le T fun q _ => by have := cntD_mono (F := F) (r := r) (q := q) hv; omega
 have b : numB F r T v ≤ numB F r T v' := nsum_le T fun q _ => by have := cntD_mono (F := F) (r := r) (q := q) hv; omega
 exact Nat.mul_le_mul (by omega) (Nat.pow_le_pow_right (by omega) b)
theorem phi_two {T : List Int} {v : Int} : 2 ≤ phi F r T v := by
 have : 1 ≤ 2 ^ numB F r T v := Nat.one_le_two_pow
 have := Nat.mul_le_mul (show 2 ≤ 2 + 2 * numA F r T v by omega) this
 unfold phi
 omega
theorem phi_first {T : List Int} {q v v' : Int} (hv : v ≤ v') (hq : q ∈ T) (h0 : cntD F r q v = 0) (h1 : 0 < cntD F r q v') : phi F r T v + 2 ≤ phi F r T v' := by
 have a : numA F r T v < numA F r T v' := nsum_lt T (fun q _ => by have := cntD_mono (F := F) (r := r) (q := q) hv; omega) ⟨q, hq, by omega⟩
 have b : numB F r T v ≤ numB F r T v' := nsum_le T fun q _ => by have := cntD_mono (F := F) (r := r) (q := q) hv; omega
 have c : 1 ≤ 2 ^ numB F r T v := Nat.one_le_two_pow
 have d := Nat.mul_le_mul (show 2 + 2 * numA F r T v + 2 ≤ 2 + 2 * numA F r T v' by omega) (Nat.pow_le_pow_right (show 0 < 2 by omega) b)
 rw [Nat.add_mul (2 + 2 * numA F r T v) 2] at d
 unfold phi
 omega
theorem phi_more {T : List Int} {q v v' : Int} (hv : v ≤ v') (hq : q ∈ T) (h0 : 0 < cntD F r q v) (h1 : cntD F r q v < cntD F r q v') : 2 * phi F r T v ≤ phi F r T v' := by
 have a : numA F r T v ≤ numA F r T v' := nsum_le T fun q _ => by have := cntD_mono (F := F) (r := r) (q := q) hv; omega
 have b : numB F r T v < numB F r T v' := nsum_lt T (fun q _ => by have := cntD_mono (F := F) (r := r) (q := q) hv; omega) ⟨q, hq, by omega⟩
 have d := Nat.mul_le_mul (show 2 + 2 * numA F r T v ≤ 2 + 2 * numA F r T v' by omega) (Nat.pow_le_pow_right (show 0 < 2 by omega) (show numB F r T v + 1 ≤ numB F r T v' by omega))
 rw [Nat.pow_succ, ← Nat.mul_assoc] at d
 unfold phi
 omega
def four (p : Int) : List Int := [0, 1, 2, p]
theorem phi_le (h : Szs list F r) {p v : Int} : phi F r (four p) v ≤ 655360 := by
 have d := fun q => cntD_5 h (q := q) (v := v)
 have a : numA F r (four p) v ≤ 4 := by
  unfold numA four
  simp only [List.map_cons, List.map_nil, List.sum_cons, List.sum_nil]
  omega
 have b : numB F r (four p) v ≤ 16 := by
  have := d 0; have := d 1; have := d 2; have := d p
  unfold numB four
  simp only [List.map_cons, List.map_nil, List.sum_cons, List.sum_nil]
  omega
 have := Nat.mul_le_mul (show 2 + 2 * numA F r (four p) v ≤ 10 by omega) (Nat.pow_le_pow_right (show 0 < 2 by omega) b)
 unfold phi
 omega
theorem phi_step (h : Szs list F r) {p : Int} {c : Cr} (hc : c ∈ list) (ok : cOk c = true) {i : Int} (hi : At F i) (hq : (fc F i).f1 ∈ four p) {fr : List Int} (hw : Way F c (fc F i) fr) (hlt : ∀ a ∈ fr, rd r a < rd r i)
  (ih : ∀ a ∈ fr, (fc F a).f1 ∈ four p → rd r a + 1 ≤ (phi F r (four p) (rd r a) : Int)) : 1 + (fr.map (rd r)).sum + 1 ≤ (phi F r (four p) (rd r i) : Int) := by
 obtain ⟨t, ha⟩ := h.ach hi
 have h2 := phi_two (F := F) (r := r) (T := four p) (v := rd r i)
 rcases (h.kinds hc ok hi hw).2 with rfl | ⟨a, rfl, pa, ea⟩ | ⟨a, b, rfl, pa, pb, ea, eb⟩
 ·simp only [List.map_nil, List.sum_nil]; omega
 ·have l1 := hlt a (by simp)
  have i1 := ih a (by simp) (by rw [ea]; exact hq)
  have p1 := h.pos pa
  have m1 := phi_mono (F := F) (r := r) (T := four p) (show rd r a ≤ rd r i - 1 by omega)
  have k1 := cntD_lt h ha (show rd r i - 1 < rd r i by omega) (by omega) (by omega) (Int.le_refl _)
  simp only [List.map_cons, List.map_nil, List.sum_cons, List.sum_nil]
  by_cases z : cntD F r (fc F i).f1 (rd r i - 1) = 0
  ·have f := phi_first (F := F) (r := r) (show rd r i - 1 ≤ rd r i by omega) hq z (by omega)
   omega
  ·have f := phi_more (F := F) (r := r) (show rd r i - 1 ≤ rd r i by omega) hq (by omega) k1
   have := phi_two (F := F) (r := r) (T := four p) (v := rd r i - 1)
   omega
 ·have l1 := hlt a (by simp)
  have l2 := hlt b (by simp)
  have qa : (fc F a).f1 ∈ four p := by
   rcases ea with ea | ea
   ·rw [ea]; exact hq
   ·obtain ⟨tb, hb⟩ := h.ach pb
    have hs := h.circle hb
    rw [ea]
    simp only [Q.six, List.mem_cons, List.not_mem_nil, or_false] at hs
    rcases hs with e | e | e | e | e | e <;> rw [e] <;> simp [four]
  have i1 := ih a (by simp) qa
  have i2 := ih b (by simp) (by rw [eb]; exact hq)
  have p1 := h.pos pa
  have p2 := h.pos pb
  have m1 := phi_mono (F := F) (r := r) (T := four p) (show rd r a ≤ rd r i - 1 by omega)
  have m2 := phi_mono (F := F) (r := r) (T := four p) (show rd r b ≤ rd r i - 1 by omega)
  have k1 := cntD_lt h ha (show rd r i - 1 < rd r i by omega) (by omega) (by omega) (Int.le_refl _)
  simp only [List.map_cons, List.map_nil, List.sum_cons, List.sum_nil]
  by_cases z : cntD F r (fc F i).f1 (rd r i - 1) = 0
  ·have f := phi_first (F := F) (r := r) (show rd r i - 1 ≤ rd r i by omega) hq z (by omega)
   have hb1 : rd r b = 1 := by
    by_cases g : rd r b = 1
    ·exact g
    ·exfalso
     obtain ⟨tb, hb⟩ := h.ach pb
     have := cntD_lt h hb (v := 1) (v' := rd r i - 1) (by omega) (by omega) (by omega) (by omega)
     rw [eb] at this
     omega
   omega
  ·have f := phi_more (F := F) (r := r) (show rd r i - 1 ≤ rd r i by omega) hq (by omega) k1
   omega
theorem Szs.best (h : Szs list F r) {i : Int} (hi : At F i) : ∃ c ∈ list, cOk c = true ∧ ∃ fr, Way F c (fc F i) fr ∧ (∀ a ∈ fr, At F a ∧ rd r a ≤ 1000000) ∧ rd r i = capI (1 + (fr.map (rd r)).sum) := by
 have ha := fixed_ach h.good h.fix h.reach i.toNat (by have := hi.1; have := hi.2; omega)
 rw [Int.toNat_of_nonneg hi.1] at ha
 obtain ⟨_, c, hc, ok, fr, hw, s, es, hs⟩ := ach_parts ha
 have hle : ∀ a ∈ fr, rd r a ≤ s a := fun a m => fixed_least h.good h.fix (hs a m)
 have hin : ∀ a ∈ fr, At F a ∧ rd r a ≤ 1000000 := fun a m => ⟨(ach_parts (hs a m)).1, Int.le_trans (hle a m) (ach_pos (hs a m)).2⟩
 have h1 := h.le_way hc ok hi hw
 rw [szB_ok fr 1 fun a m => (hin a m).2] at h1
 have h2 := capI_le (show 1 + (fr.map (rd r)).sum ≤ 1 + (fr.map s).sum by have := sum_le fr hle; omega)
 exact ⟨c, hc, ok, fr, hw, hin, by omega⟩
theorem sum_ge {s : Int → Int} : ∀ (l : List Int), (∀ a ∈ l, 1 ≤ s a) → ∀ a ∈ l, s a ≤ (l.map s).sum := by
 intro l
 induction l with
 | nil => intro _ a h; simp at h
 | cons x l ih =>
  intro h a ha
  simp only [List.map_cons, List.sum_cons]
  have hx := h x (List.mem_cons_self ..)
  have hl := sum_nn l (s := s) fun y hy => by have := h y (List.mem_cons_of_mem _ hy); omega
  rcases List.mem_cons.1 ha with rfl | ha
  ·omega
  ·have := ih (fun y hy => h y (List.mem_cons_of_mem _ hy)) a ha; omega
theorem cap_eq {x : Int} (h : capI x < 1000000) : capI x = x := by unfold capI at h ⊢; split <;> simp_all <;> omega
theorem Szs.phi_all (h : Szs list F r) {p : Int} : ∀ (n : Nat) (i : Int), At F i → (fc F i).f1 ∈ four p → rd r i ≤ (n : Int) → rd r i < 1000000 → rd r i + 1 ≤ (phi F r (four p) (rd r i) : Int) := by
 intro n
 induction n with
 | zero => intro i hi _ hn _; have := (h.pos hi).1; omega
 | succ n ih =>
  intro i hi hq hn hlt
  obtain ⟨c, hc, ok, fr, hw, hin, e⟩ := h.best hi
  have e2 : rd r i = 1 + (fr.map (rd r)).sum := by rw [e] at hlt ⊢; exact cap_eq hlt
  have hpos : ∀ a ∈ fr, 1 ≤ rd r a := fun a m => (h.pos (hin a m).1).1
  have hl : ∀ a ∈ fr, rd r a < rd r i := fun a m => by have := sum_ge fr hpos a m; omega
  have := phi_step h hc ok hi hq hw hl fun a m qa => ih a (hin a m).1 qa (by have := hl a m; omega) (by have := hl a m; omega)
  omega
theorem Szs.small (h : Szs list F r) {i : Int} (hi : At F i) : rd r i < 1000000 := by
 obtain ⟨t, ha⟩ := h.ach hi
 induction ha with
 | mk i c hc ok d hd h0 h1 hf s hs ih =>
  have hw : Way F c (fc F i) d.f1 := by unfold Way fc; rw [hf]; exact hd
  have hs2 : ∀ a ∈ d.f1, At F a := fun a m => (ach_parts (hs a m)).1
  have hsm : ∀ a ∈ d.f1, rd r a < 1000000 := fun a m => ih a m (hs2 a m)
  by_cases g : rd r i < 1000000
  ·exact g
  ·exfalso
   have hq : (fc F i).f1 ∈ four (fc F i).f1 := by simp [four]
   have st := phi_step h hc ok hi hq hw (fun a m => by have := hsm a m; omega) fun a m qa => h.phi_all (rd r a).toNat a (hs2 a m) qa (by omega) (hsm a m)
   have l1 := h.le_way hc ok hi hw
   rw [szB_ok d.f1 1 fun a m => by have := hsm a m; omega] at l1
   have l2 := phi_le h (p := (fc F i).f1) (v := rd r i)
   unfold capI at l1
   split at l1 <;> omega
theorem Szs.plain (h : Szs list F r) {i : Int} (hi : At F i) : ∃ c ∈ list, cOk c = true ∧ ∃ fr, Way F c (fc F i) fr ∧ (∀ a ∈ fr, At F a) ∧ szB r fr 1 = rd r i ∧ rd r i = 1 + (fr.map (rd r)).sum := by
 obtain ⟨c, hc, ok, fr, hw, hin, e⟩ := h.best hi
 have hl := h.small hi
 refine ⟨c, hc, ok, fr, hw, fun a m => (hin a m).1, ?_, by rw [e] at hl ⊢; exact cap_eq hl⟩
 rw [szB_ok fr 1 fun a m => (hin a m).2, e]
end
end Q
end Go.Proofs.Ytljhfomkakhflaa
