/-
Least sizes: what the sizes of facts may be, and that sizes which nothing betters are the least ones.
-/
import Derived.Test.YtljhfomkakhflaaKEQ16
namespace Go.Proofs.Ytljhfomkakhflaa
open Go.RowKit Go.Proofs.YtljhfomkakhflaaW.PrintWords Go.Proofs.YtljhfomkakhflaaW.PrintLast Go.Proofs.YtljhfomkakhflaaW.PrintMore Go.Proofs.Ytljhfomkakhflaa.PA
set_option linter.unusedVariables false
set_option linter.unusedSimpArgs false
namespace Q
theorem Ev.upE {σ ρ : Type} (n : Nat) (F : Nat → σ → Nat → Option ρ) (P : ρ → Prop) (Inv : Nat → σ → Prop)
  (step : ∀ i s, i < n → Inv i s → (∀ s', Inv (i + 1) s' → ∃ r, Ev (F (i + 1) s') r ∧ P r) → ∃ r, Ev (F i s) r ∧ P r)
  (fin : ∀ s, Inv n s → ∃ r, Ev (F n s) r ∧ P r) : ∀ i s, i ≤ n → Inv i s → ∃ r, Ev (F i s) r ∧ P r := by
 have key : ∀ d i s, n - i = d → i ≤ n → Inv i s → ∃ r, Ev (F i s) r ∧ P r := by
  intro d
  induction d with
  | zero =>
   intro i s h1 h2 h3
   obtain rfl : i = n := by omega
   exact fin s h3
  | succ d ih => exact fun i s h1 h2 h3 => step i s (by omega) h3 (fun s' h => ih (i + 1) s' (by omega) (by omega) h)
 exact fun i s h h2 => key _ i s rfl h h2
theorem Ev.exsucc {ρ : Type} {g : Nat → Option ρ} {P : ρ → Prop} (h : ∃ r, Ev (fun k => g (k + 1)) r ∧ P r) : ∃ r, Ev g r ∧ P r := by
 obtain ⟨r, h1, h2⟩ := h
 exact ⟨r, Ev.succ h1, h2⟩
theorem Ev.exbind {α ρ : Type} {g : Nat → Option α} {f : Nat → α → Option ρ} {a : α} {P : ρ → Prop} (h : Ev g a) (k : ∃ r, Ev (fun n => f n a) r ∧ P r) : ∃ r, Ev (fun n => (g n).bind (f n)) r ∧ P r := by
 obtain ⟨r, h1, h2⟩ := k
 exact ⟨r, Ev.bind h h1, h2⟩
def capI (x : Int) : Int := if x > 1000000 then 1000000 else x
inductive Ach (list : List Cr) (F : List Fc) : Int → Int → Prop
 | mk (i : Int) (c : Cr) (hc : c ∈ list) (ok : cOk c = true) (d : Dv) (hd : d ∈ deriveL F c) (h0 : 0 ≤ i) (h1 : i < (F.length : Int)) (hf : rd_T28 F i = d.f0) (s : Int → Int) (hs : ∀ a ∈ d.f1, Ach list F a (s a)) : Ach list F i (capI (1 + (d.f1.map s).sum))
theorem sum_nn {s : Int → Int} : ∀ l : List Int, (∀ a ∈ l, 0 ≤ s a) → 0 ≤ (l.map s).sum := by
 intro l
 induction l with
 | nil => intro _; simp
 | cons a l ih =>
  intro h
  have h1 := h a (List.mem_cons_self ..)
  have h2 := ih (fun b hb => h b (List.mem_cons_of_mem _ hb))
  rw [List.map_cons, List.sum_cons]
  omega
theorem sum_le {s s' : Int → Int} : ∀ l : List Int, (∀ a ∈ l, s a ≤ s' a) → (l.map s).sum ≤ (l.map s').sum := by
 intro l
 induction l with
 | nil => intro _; simp
 | cons a l ih =>
  intro h
  have h1 := h a (List.mem_cons_self ..)
  have h2 := ih (fun b hb => h b (List.mem_cons_of_mem _ hb))
  rw [List.map_cons, List.sum_cons, List.map_cons, List.sum_cons]
  omega
theorem capI_le {x y : Int} (h : x ≤ y) : capI x ≤ capI y := by unfold capI; split <;> split <;> omega
theorem ach_pos {list : List Cr} {F : List Fc} {i t : Int} (h : Ach list F i t) : 1 ≤ t ∧ t ≤ 1000000 := by
 induction h with
 | mk i c hc ok d hd h0 h1 hf s hs ih =>
  have := sum_nn (s := s) d.f1 (fun a ha => by have := (ih a ha).1; omega)
  unfold capI
  split <;> omega
def szB (s : List Int) : List Int → Int → Int
 | [], n => capI n
 | a :: l, n => if rd s a > 1000000 then 1000001 else szB s l (n + rd s a)
theorem szB_ok {s : List Int} : ∀ (l : List Int) (n : Int), (∀ a ∈ l, rd s a ≤ 1000000) → szB s l n = capI (n + (l.map (rd s)).sum) := by
 intro l
 induction l with
 | nil => intro n _; simp [szB]
 | cons a l ih =>
  intro n h
  have h1 := h a (List.mem_cons_self ..)
  unfold szB
  rw [if_neg (by omega), ih _ (fun b hb => h b (List.mem_cons_of_mem _ hb)), List.map_cons, List.sum_cons]
  congr 1
  omega
theorem szB_big {s : List Int} : ∀ (l : List Int) (n : Int), (∃ a ∈ l, rd s a > 1000000) → szB s l n = 1000001 := by
 intro l
 induction l with
 | nil => intro n h; obtain ⟨a, ha, _⟩ := h; simp at ha
 | cons a l ih =>
  intro n h
  unfold szB
  by_cases h1 : rd s a > 1000000
  ·rw [if_pos h1]
  ·rw [if_neg h1]
   obtain ⟨b, hb, h2⟩ := h
   rcases List.mem_cons.1 hb with rfl | hb
   ·exact absurd h2 h1
   ·exact ih _ ⟨b, hb, h2⟩
theorem szB_two {s : List Int} (l : List Int) : (szB s l 1 = 1000001 ∧ ∃ a ∈ l, rd s a > 1000000) ∨ ((∀ a ∈ l, rd s a ≤ 1000000) ∧ szB s l 1 = capI (1 + (l.map (rd s)).sum)) := by
 by_cases h : ∃ a ∈ l, rd s a > 1000000
 ·exact .inl ⟨szB_big l 1 h, h⟩
 ·refine .inr ⟨fun a ha => ?_, szB_ok l 1 (fun a ha => ?_)⟩
  ·exact Int.not_lt.1 (fun h' => h ⟨a, ha, h'⟩)
  ·exact Int.not_lt.1 (fun h' => h ⟨a, ha, h'⟩)
def GoodS (list : List Cr) (F : List Fc) (s : List Int) : Prop := s.length = F.length ∧ ∀ i : Nat, i < F.length → rd s i = 1000001 ∨ Ach list F i (rd s i)
def Sat (F : List Fc) (s : List Int) (d : Dv) : Prop := ∀ i : Nat, i < F.length → rd_T28 F i = d.f0 → rd s i ≤ szB s d.f1 1
def FixedS (list : List Cr) (F : List Fc) (s : List Int) : Prop := ∀ c ∈ list, cOk c = true → ∀ d ∈ deriveL F c, Sat F s d
theorem good_range {list : List Cr} {F : List Fc} {s : List Int} (h : GoodS list F s) {a : Int} (h0 : 0 ≤ a) (h1 : a < (F.length : Int)) : 1 ≤ rd s a ∧ rd s a ≤ 1000001 := by
 obtain ⟨n, rfl⟩ := Int.eq_ofNat_of_zero_le h0
 rcases h.2 n (by omega) with h2 | h2
 ·omega
 ·have := ach_pos h2; omega
theorem fixed_least {list : List Cr} {F : List Fc} {s : List Int} (hg : GoodS list F s) (hf : FixedS list F s) {i t : Int} (h : Ach list F i t) : rd s i ≤ t := by
 induction h with
 | mk i c hc ok d hd h0 h1 hfc s' hs ih =>
  have h2 : ∀ a ∈ d.f1, rd s a ≤ s' a := ih
  have h3 : ∀ a ∈ d.f1, rd s a ≤ 1000000 := fun a ha => Int.le_trans (h2 a ha) (ach_pos (hs a ha)).2
  obtain ⟨n, rfl⟩ := Int.eq_ofNat_of_zero_le h0
  refine Int.le_trans (hf c hc ok d hd n (by omega) hfc) ?_
  rw [szB_ok _ _ h3]
  exact capI_le (by have := sum_le d.f1 h2; omega)
theorem fixed_ach {list : List Cr} {F : List Fc} {s : List Int} (hg : GoodS list F s) (hf : FixedS list F s) (hr : ∀ i : Nat, i < F.length → ∃ t, Ach list F i t) (i : Nat) (hi : i < F.length) : Ach list F i (rd s i) := by
 obtain ⟨t, ht⟩ := hr i hi
 have h1 := fixed_least hg hf ht
 have h2 := ach_pos ht
 rcases hg.2 i hi with h | h
 ·omega
 ·exact h
theorem whoAt_mem (r : Rl) : ∀ (xs : List Fc) (n i : Int), i ∈ whoAt r xs n ↔ ∃ j : Nat, ∃ h : j < xs.length, i = n + j ∧ (decide (xs[j].f0 = r) && fOk xs[j]) = true := by
 intro xs
 induction xs with
 | nil => intro n i; simp [whoAt]
 | cons x xs ih =>
  intro n i
  have hstep : (∃ j : Nat, ∃ h : j < (x :: xs).length, i = n + j ∧ (decide ((x :: xs)[j].f0 = r) && fOk (x :: xs)[j]) = true) ↔ (i = n ∧ (decide (x.f0 = r) && fOk x) = true) ∨ ∃ j : Nat, ∃ h : j < xs.length, i = n + 1 + j ∧ (decide (xs[j].f0 = r) && fOk xs[j]) = true := by
   constructor
   ·rintro ⟨j, h, e, hp⟩
    cases j with
    | zero => exact .inl ⟨by omega, hp⟩
    | succ j => exact .inr ⟨j, by simpa using h, by omega, hp⟩
   ·rintro (⟨e, hp⟩ | ⟨j, h, e, hp⟩)
    ·exact ⟨0, by simp, by omega, hp⟩
    ·exact ⟨j + 1, by simpa using h, by omega, hp⟩
  rw [hstep]
  unfold whoAt
  split
  ·rename_i hp
   rw [List.mem_cons, ih]
   exact ⟨fun h => h.elim (fun e => .inl ⟨e, hp⟩) .inr, fun h => h.elim (fun e => .inl e.1) .inr⟩
  ·rename_i hp
   rw [ih]
   exact ⟨.inr, fun h => h.elim (fun e => absurd e.2 hp) id⟩
theorem rdF {l : List Fc} {j : Nat} (h : j < l.length) : rd_T28 l (j : Int) = l[j] := by unfold rd_T28; simp [h]
theorem mem_whoL {F : List Fc} (hR : Right F) {r : Rl} {i : Int} : i ∈ whoL F r ↔ (0 ≤ i ∧ i < (F.length : Int)) ∧ (rd_T28 F i).f0 = r := by
 unfold whoL
 rw [whoAt_mem]
 constructor
 ·rintro ⟨j, h, e, hp⟩
  rw [Int.zero_add] at e
  subst e
  rw [rdF h]
  rw [Bool.and_eq_true, decide_eq_true_eq] at hp
  exact ⟨by omega, hp.1⟩
 ·rintro ⟨⟨h0, h1⟩, e⟩
  obtain ⟨j, rfl⟩ := Int.eq_ofNat_of_zero_le h0
  have hj : j < F.length := by omega
  rw [rdF hj] at e
  exact ⟨j, hj, by omega, by rw [Bool.and_eq_true, decide_eq_true_eq]; exact ⟨e, hR _ (List.getElem_mem hj)⟩⟩
theorem idxF_pos (p : Fc → Bool) : ∀ (l : List Fc) (n : Int), (idxF p l n = -1 ∧ ∀ x ∈ l, p x = false) ∨ ∃ j : Nat, ∃ h : j < l.length, idxF p l n = n + j ∧ p l[j] = true := by
 intro l
 induction l with
 | nil => intro n; exact .inl ⟨rfl, fun x hx => by simp at hx⟩
 | cons x xs ih =>
  intro n
  unfold idxF
  cases hp : p x
  ·rw [if_neg (by simp)]
   rcases ih (n + 1) with ⟨h1, h2⟩ | ⟨j, h, h1, h2⟩
   ·exact .inl ⟨h1, fun y hy => by rcases List.mem_cons.1 hy with rfl | hy; exact hp; exact h2 y hy⟩
   ·exact .inr ⟨j + 1, by simpa using h, by rw [h1]; omega, h2⟩
  ·rw [if_pos rfl]
   exact .inr ⟨0, by simp, by omega, hp⟩
def atF (F : List Fc) (r : Rl) (w : Int) : Int := idxF (isFc r.f0 r.f1 w) F 0
theorem atF_pos (F : List Fc) (r : Rl) (w : Int) : (atF F r w = -1 ∧ (⟨r, w⟩ : Fc) ∉ F) ∨ ((0 ≤ atF F r w ∧ atF F r w < (F.length : Int)) ∧ rd_T28 F (atF F r w) = ⟨r, w⟩) := by
 unfold atF
 rcases idxF_pos (isFc r.f0 r.f1 w) F 0 with ⟨h1, h2⟩ | ⟨j, h, h1, h2⟩
 ·refine .inl ⟨h1, fun hm => ?_⟩
  have h3 := h2 _ hm
  rw [(isFc_iff r.f0 r.f1 w ⟨r, w⟩).2 rfl] at h3
  cases h3
 ·rw [Int.zero_add] at h1
  refine .inr ?_
  rw [h1, rdF h]
  exact ⟨by omega, (isFc_iff _ _ _ _).1 h2⟩
theorem place_one {F : List Fc} (hn : F.Nodup) {i j : Int} (hi : 0 ≤ i ∧ i < (F.length : Int)) (hj : 0 ≤ j ∧ j < (F.length : Int)) (h : rd_T28 F i = rd_T28 F j) : i = j := by
 obtain ⟨a, rfl⟩ := Int.eq_ofNat_of_zero_le hi.1
 obtain ⟨b, rfl⟩ := Int.eq_ofNat_of_zero_le hj.1
 have ha : a < F.length := by omega
 have hb : b < F.length := by omega
 rw [rdF ha, rdF hb] at h
 have := (List.getElem_inj hn).1 h
 omega
theorem atF_at {F : List Fc} (hn : F.Nodup) {r : Rl} {w i : Int} (hi : 0 ≤ i ∧ i < (F.length : Int)) (h : rd_T28 F i = ⟨r, w⟩) : atF F r w = i := by
 rcases atF_pos F r w with ⟨_, h2⟩ | ⟨h1, h2⟩
 ·obtain ⟨a, rfl⟩ := Int.eq_ofNat_of_zero_le hi.1
  have ha : a < F.length := by omega
  rw [rdF ha] at h
  exact absurd (h ▸ List.getElem_mem ha) h2
 ·exact place_one hn h1 hi (h2.trans h.symm)
def Way (F : List Fc) (c : Cr) (f : Fc) (fr : List Int) : Prop := (⟨f, fr⟩ : Dv) ∈ deriveL F c
theorem way1 {F : List Fc} {c : Cr} (hk : c.f0 = 1) {f : Fc} {fr : List Int} : Way F c f fr ↔ f = ⟨c.f1, c.f2⟩ ∧ fr = [] := by
 unfold Way deriveL
 rw [if_pos hk, List.mem_singleton]
 constructor
 ·intro h; injection h with h1 h2; exact ⟨h1, h2⟩
 ·rintro ⟨rfl, rfl⟩; rfl
theorem way2 {F : List Fc} (hR : Right F) {c : Cr} (hk : c.f0 = 2) {f : Fc} {fr : List Int} : Way F c f fr ↔ f.f0 = c.f1 ∧ ∃ a, (0 ≤ a ∧ a < (F.length : Int)) ∧ rd_T28 F a = ⟨c.f3, f.f1⟩ ∧ fr = [a] := by
 unfold Way deriveL
 rw [if_neg (by omega), if_pos hk, List.mem_map]
 constructor
 ·rintro ⟨a, ha, e⟩
  injection e with e1 e2
  obtain ⟨h1, h2⟩ := (mem_whoL hR).1 ha
  subst e1
  exact ⟨rfl, a, h1, by rw [← h2], e2.symm⟩
 ·rintro ⟨e, a, h1, h2, rfl⟩
  refine ⟨a, (mem_whoL hR).2 ⟨h1, by rw [h2]⟩, ?_⟩
  rw [h2, ← e]
theorem way3 {F : List Fc} (hR : Right F) {c : Cr} (hk : c.f0 = 3) {f : Fc} {fr : List Int} : Way F c f fr ↔ f.f0 = c.f1 ∧ ∃ a b, ((0 ≤ a ∧ a < (F.length : Int)) ∧ (rd_T28 F a).f0 = c.f3) ∧ ((0 ≤ b ∧ b < (F.length : Int)) ∧ rd_T28 F b = ⟨⟨(rd_T28 F a).f1, c.f4.f1⟩, f.f1⟩) ∧ fr = [a, b] := by
 unfold Way deriveL
 rw [if_neg (by omega), if_neg (by omega), if_pos hk, List.mem_flatMap]
 constructor
 ·rintro ⟨a, ha, hm⟩
  obtain ⟨b, hb, e⟩ := List.mem_map.1 hm
  injection e with e1 e2
  have h1 := (mem_whoL hR).1 ha
  obtain ⟨h2, h3⟩ := (mem_whoL hR).1 hb
  subst e1
  exact ⟨rfl, a, b, h1, ⟨h2, by rw [← h3]⟩, e2.symm⟩
 ·rintro ⟨e, a, b, h1, ⟨h2, h3⟩, rfl⟩
  refine ⟨a, (mem_whoL hR).2 h1, List.mem_map.2 ⟨b, (mem_whoL hR).2 ⟨h2, by rw [h3]⟩, ?_⟩⟩
  rw [h3, ← e]
theorem way4 {F : List Fc} (hR : Right F) (hn : F.Nodup) {c : Cr} (hk : c.f0 = 4) {f : Fc} {fr : List Int} : Way F c f fr ↔ f.f0 = c.f1 ∧ ∃ a b, ((0 ≤ a ∧ a < (F.length : Int)) ∧ rd_T28 F a = ⟨c.f3, f.f1⟩) ∧ ((0 ≤ b ∧ b < (F.length : Int)) ∧ rd_T28 F b = ⟨c.f4, f.f1⟩) ∧ fr = [a, b] := by
 unfold Way deriveL
 rw [if_neg (by omega), if_neg (by omega), if_neg (by omega), if_pos hk, List.mem_flatMap]
 constructor
 ·rintro ⟨a, ha, hm⟩
  have h1 := (mem_whoL hR).1 ha
  have h2 := atF_pos F c.f4 (rd_T28 F a).f1
  unfold atF at h2
  split at hm
  ·rename_i hp
   rw [List.mem_singleton] at hm
   injection hm with e1 e2
   subst e1
   rcases h2 with h2 | h2
   ·omega
   ·exact ⟨rfl, a, _, ⟨h1.1, by rw [← h1.2]⟩, h2, e2⟩
  ·simp at hm
 ·rintro ⟨e, a, b, ⟨h1, h2⟩, ⟨h3, h4⟩, rfl⟩
  refine ⟨a, (mem_whoL hR).2 ⟨h1, by rw [h2]⟩, ?_⟩
  have h5 := atF_at hn h3 h4
  unfold atF at h5
  have e2 : (rd_T28 F a).f1 = f.f1 := by rw [h2]
  rw [e2, h5, if_pos (by omega), List.mem_singleton, ← e]
theorem way_at {F : List Fc} (hR : Right F) (hn : F.Nodup) {c : Cr} (ok : cOk c = true) {f : Fc} {fr : List Int} (h : Way F c f fr) : fr.length ≤ 2 ∧ ∀ a ∈ fr, 0 ≤ a ∧ a < (F.length : Int) := by
 rcases cOk_kind ok with hk | hk | hk | hk
 ·obtain ⟨_, rfl⟩ := (way1 hk).1 h
  exact ⟨by simp, fun a ha => by simp at ha⟩
 ·obtain ⟨_, a, h1, _, rfl⟩ := (way2 hR hk).1 h
  exact ⟨by simp, fun b hb => by rw [List.mem_singleton.1 hb]; exact h1⟩
 ·obtain ⟨_, a, b, h1, h2, rfl⟩ := (way3 hR hk).1 h
  exact ⟨by simp, fun x hx => by rcases List.mem_cons.1 hx with rfl | hx; exact h1.1; rw [List.mem_singleton.1 hx]; exact h2.1⟩
 ·obtain ⟨_, a, b, h1, h2, rfl⟩ := (way4 hR hn hk).1 h
  exact ⟨by simp, fun x hx => by rcases List.mem_cons.1 hx with rfl | hx; exact h1.1; rw [List.mem_singleton.1 hx]; exact h2.1⟩
theorem place_of {F : List Fc} {f : Fc} (h : f ∈ F) : ∃ i : Int, (0 ≤ i ∧ i < (F.length : Int)) ∧ rd_T28 F i = f := by
 obtain ⟨j, hj, e⟩ := List.getElem_of_mem h
 exact ⟨j, by omega, by rw [rdF hj]; exact e⟩
theorem ach_way {list : List Cr} {F : List Fc} {c : Cr} (hc : c ∈ list) (ok : cOk c = true) {i : Int} (hi : 0 ≤ i ∧ i < (F.length : Int)) {fr : List Int} (hw : Way F c (rd_T28 F i) fr) (h : ∀ a ∈ fr, ∃ t, Ach list F a t) : ∃ t, Ach list F i t := by
 classical
 refine ⟨_, Ach.mk i c hc ok ⟨_, fr⟩ hw hi.1 hi.2 rfl (fun a => if h' : ∃ t, Ach list F a t then Classical.choose h' else 0) (fun a ha => ?_)⟩
 have h' := h a ha
 simp only [h', dif_pos]
 exact Classical.choose_spec h'
theorem reach_all (list : List Cr) : ∀ i : Nat, i < (factsF list).length → ∃ t, Ach list (factsF list) i t := by
 have hR := factsF_right list
 have hn := factsF_nodup list
 have key : ∀ f, Der list f → ∀ i : Int, (0 ≤ i ∧ i < ((factsF list).length : Int)) → rd_T28 (factsF list) i = f → ∃ t, Ach list (factsF list) i t := by
  intro f d
  induction d with
  | mem c hc ok hk => exact fun i hi e => ach_way hc ok hi (fr := []) ((way1 hk).2 ⟨e, rfl⟩) (fun a ha => by simp at ha)
  | frm c hc ok hk w d ih =>
   intro i hi e
   obtain ⟨a, ha, ea⟩ := place_of (mem_factsF.2 d)
   refine ach_way hc ok hi (fr := [a]) ((way2 hR hk).2 ⟨by rw [e], a, ha, by rw [e]; exact ea, rfl⟩) (fun b hb => ?_)
   rw [List.mem_singleton.1 hb]
   exact ih a ha ea
  | lnk c hc ok hk x w d1 d2 ih1 ih2 =>
   intro i hi e
   obtain ⟨a, ha, ea⟩ := place_of (mem_factsF.2 d1)
   obtain ⟨b, hb, eb⟩ := place_of (mem_factsF.2 d2)
   refine ach_way hc ok hi (fr := [a, b]) ((way3 hR hk).2 ⟨by rw [e], a, b, ⟨ha, by rw [ea]⟩, ⟨hb, by rw [e, ea]; exact eb⟩, rfl⟩) (fun y hy => ?_)
   rcases List.mem_cons.1 hy with rfl | hy
   ·exact ih1 _ ha ea
   ·rw [List.mem_singleton.1 hy]; exact ih2 b hb eb
  | bth c hc ok hk w d1 d2 ih1 ih2 =>
   intro i hi e
   obtain ⟨a, ha, ea⟩ := place_of (mem_factsF.2 d1)
   obtain ⟨b, hb, eb⟩ := place_of (mem_factsF.2 d2)
   refine ach_way hc ok hi (fr := [a, b]) ((way4 hR hn hk).2 ⟨by rw [e], a, b, ⟨ha, by rw [e]; exact ea⟩, ⟨hb, by rw [e]; exact eb⟩, rfl⟩) (fun y hy => ?_)
   rcases List.mem_cons.1 hy with rfl | hy
   ·exact ih1 _ ha ea
   ·rw [List.mem_singleton.1 hy]; exact ih2 b hb eb
 intro i hi
 refine key _ (mem_factsF.1 ?_) i (by omega) rfl
 rw [rdF hi]
 exact List.getElem_mem hi
end Q
end Go.Proofs.Ytljhfomkakhflaa
