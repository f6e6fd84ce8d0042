/-
Facts that follow from words: the program's list of what a word tells, the facts of a list of words as both tell them, and what it means to be one of them.
-/
import Derived.Test.YtljhfomkakhflaaKEPAx9
import Derived.Test.YtljhfomkakhflaaKEQ0
namespace Go.Proofs.Ytljhfomkakhflaa
open Go.RowKit Go.Proofs.YtljhfomkakhflaaW.PrintWords Go.Proofs.YtljhfomkakhflaaW.PrintLast Go.Proofs.YtljhfomkakhflaaW.PrintMore Go.Proofs.Ytljhfomkakhflaa.PA
set_option linter.unusedVariables false
set_option linter.unusedSimpArgs false
namespace Q
abbrev Rl := S26
abbrev Fc := S28
abbrev Cr := S35
instance decRl : DecidableEq Rl := fun a b => decidable_of_iff (a.f0 = b.f0 ∧ a.f1 = b.f1) (by cases a; cases b; simp)
instance decFc : DecidableEq Fc := fun a b => decidable_of_iff (a.f0 = b.f0 ∧ a.f1 = b.f1) (by cases a; cases b; simp)
def fOk (f : Fc) : Bool := roleOkB f.f0.f0 f.f0.f1 && inB f.f1 0 5
def cOk (c : Cr) : Bool := credOkB c.f0 c.f1.f0 c.f1.f1 c.f2 c.f3.f0 c.f3.f1 c.f4.f0 c.f4.f1 c.f5 c.f6
def isFc (a b c : Int) (x : Fc) : Bool := (x.f0.f0 == a && x.f0.f1 == b) && x.f1 == c
theorem isFc_iff (a b c : Int) (x : Fc) : isFc a b c x = true ↔ x = ⟨⟨a, b⟩, c⟩ := by
 obtain ⟨⟨p, q⟩, r⟩ := x
 simp [isFc, and_assoc]
theorem any_memF (l : List Fc) (a b c : Int) : l.any (isFc a b c) = decide ((⟨⟨a, b⟩, c⟩ : Fc) ∈ l) := by
 rw [Bool.eq_iff_iff, List.any_eq_true, decide_eq_true_eq]
 constructor
 ·rintro ⟨x, hx, h⟩
  rw [isFc_iff] at h
  exact h ▸ hx
 ·exact fun h => ⟨_, h, (isFc_iff _ _ _ _).2 rfl⟩
theorem isFc_comm (a b c : Int) (x : Fc) : ((a == x.f0.f0 && b == x.f0.f1) && c == x.f1) = isFc a b c x := by
 unfold isFc
 rw [beqI, beqI, beqI, beqI, beqI, beqI]
 simp only [eq_comm]
theorem spec_hasF (l : List Fc) (a b c : Int) (h : l.length ≤ 1048576) : Ev (fun k => spec_l06Has.f k l a b c) (decide ((⟨⟨a, b⟩, c⟩ : Fc) ∈ l)) := by
 rw [← any_memF]
 unfold spec_l06Has.f
 have key := Ev.up0 l.length (fun i k => spec_l06Has.l0 k l i a b c) (fun i => (l.drop i).any (isFc a b c)) ?_ ?_ 0 (Nat.zero_le _)
 ·exact key
 ·intro i hi hn
  refine Ev.succ ?_
  simp only [spec_l06Has.l0, nat_lt, nat_0, hi, ↓reduceIte, rd_T28, getD_ _ hi, getDn_ _ hi, up_ (show i < 4611686018427387904 by omega)]
  rw [List.drop_eq_getElem_cons hi, List.any_cons]
  unfold isFc at hn ⊢
  cases hb : ((l[i].f0.f0 == a && l[i].f0.f1 == b) && l[i].f1 == c)
  ·simp only [Bool.false_eq_true, ↓reduceIte, Bool.false_or]
   exact hn
  ·simp only [↓reduceIte, Bool.true_or]
   exact Ev.now _
 ·refine Ev.succ ?_
  simp only [spec_l06Has.l0, nat_lt, Nat.lt_irrefl, ↓reduceIte, List.drop_length]
  exact Ev.now _
def idxF (p : Fc → Bool) : List Fc → Int → Int
 | [], _ => -1
 | x :: xs, i => if p x = true then i else idxF p xs (i + 1)
theorem idxF_any (p : Fc → Bool) : ∀ (l : List Fc) (i : Int), 0 ≤ i → (decide (idxF p l i ≥ 0)) = l.any p := by
 intro l
 induction l with
 | nil => intro i h; simp [idxF]
 | cons x xs ih =>
  intro i h
  unfold idxF
  cases hp : p x
  ·simp [hp, ← ih (i + 1) (by omega)]
  ·simp [hp, h]
theorem indexF (l : List Fc) (a b c : Int) (h : l.length ≤ 1048576) : Ev (fun k => impl_Fact_22.f k l a b c) (idxF (isFc a b c) l 0) := by
 unfold impl_Fact_22.f
 refine Ev.up0 l.length (fun i k => impl_Fact_22.l0 k l l.length i a b c) (fun i => idxF (isFc a b c) (l.drop i) i) ?_ ?_ 0 (Nat.zero_le _)
 ·intro i hi hn
  refine Ev.succ ?_
  simp only [impl_Fact_22.l0, nat_lt, nat_0, hi, ↓reduceIte, rd_T28, getD_ _ hi, getDn_ _ hi, up_ (show i < 4611686018427387904 by omega), isFc_comm]
  rw [List.drop_eq_getElem_cons hi]
  unfold idxF
  cases hb : isFc a b c l[i]
  ·simp only [Bool.false_eq_true, ↓reduceIte]
   exact hn
  ·simp only [↓reduceIte]
   exact Ev.now _
 ·refine Ev.succ ?_
  simp only [impl_Fact_22.l0, nat_lt, Nat.lt_irrefl, ↓reduceIte, List.drop_length]
  exact Ev.now _
theorem containsF (l : List Fc) (a b c : Int) (h : l.length ≤ 1048576) : Ev (fun k => impl_Fact_53.f k l a b c) (decide ((⟨⟨a, b⟩, c⟩ : Fc) ∈ l)) := by
 unfold impl_Fact_53.f
 refine Ev.bind (indexF l a b c h) ?_
 rw [idxF_any (isFc a b c) l 0 (Int.le_refl _), any_memF]
 exact Ev.now _
def addF (l : List Fc) (f : Fc) : List Fc := if f ∈ l then l else l ++ [f]
theorem addF_len (l : List Fc) (f : Fc) : l.length ≤ (addF l f).length ∧ (addF l f).length ≤ l.length + 1 := by
 unfold addF
 split
 ·omega
 ·simp
theorem mem_addF {l : List Fc} {f g : Fc} : g ∈ addF l f ↔ g ∈ l ∨ g = f := by
 unfold addF
 split
 ·rename_i h
  constructor
  ·exact .inl
  ·rintro (h' | rfl)
   ·exact h'
   ·exact h
 ·simp
theorem addF_pre (l : List Fc) (f : Fc) : ∃ t, addF l f = l ++ t := by
 unfold addF
 split
 ·exact ⟨[], by simp⟩
 ·exact ⟨[f], rfl⟩
theorem addF_nodup {l : List Fc} (f : Fc) (h : l.Nodup) : (addF l f).Nodup := by
 unfold addF
 split
 ·exact h
 ·rename_i hn
  rw [List.nodup_append]
  refine ⟨h, by simp, ?_⟩
  intro a ha b hb e
  rw [List.mem_singleton] at hb
  subst hb
  exact hn (e ▸ ha)
theorem foldl_pre (ds : List Fc) : ∀ l : List Fc, ∃ t, ds.foldl addF l = l ++ t := by
 induction ds with
 | nil => exact fun l => ⟨[], by simp⟩
 | cons d ds ih =>
  intro l
  obtain ⟨t, ht⟩ := addF_pre l d
  obtain ⟨t', ht'⟩ := ih (addF l d)
  exact ⟨t ++ t', by rw [List.foldl_cons, ht', ht, List.append_assoc]⟩
theorem mem_foldl (ds : List Fc) : ∀ (l : List Fc) (g : Fc), g ∈ ds.foldl addF l ↔ g ∈ l ∨ g ∈ ds := by
 induction ds with
 | nil => intro l g; simp
 | cons d ds ih =>
  intro l g
  rw [List.foldl_cons, ih, mem_addF, List.mem_cons, or_assoc]
theorem foldl_nodup (ds : List Fc) : ∀ l : List Fc, l.Nodup → (ds.foldl addF l).Nodup := by
 induction ds with
 | nil => exact fun l h => h
 | cons d ds ih => exact fun l h => ih _ (addF_nodup d h)
def telF (l : List Fc) (c : Cr) : List Fc :=
 if c.f0 = 1 then [⟨c.f1, c.f2⟩]
 else if c.f0 = 2 then (l.filter fun x => decide (x.f0 = c.f3)).map fun x => ⟨c.f1, x.f1⟩
 else if c.f0 = 3 then (l.filter fun x => decide (x.f0 = c.f3)).flatMap fun x => (l.filter fun y => decide (y.f0 = ⟨x.f1, c.f4.f1⟩)).map fun y => ⟨c.f1, y.f1⟩
 else if c.f0 = 4 then ((l.filter fun x => decide (x.f0 = c.f3)).filter fun x => decide ((⟨c.f4, x.f1⟩ : Fc) ∈ l)).map fun x => ⟨c.f1, x.f1⟩
 else []
def stepF (l : List Fc) (c : Cr) : List Fc := if cOk c = true then (telF l c).foldl addF l else l
theorem spec_put (l : List Fc) (a b c : Int) (h : l.length ≤ 1048576) : Ev (fun k => spec_l06Put.f k l a b c) (addF l ⟨⟨a, b⟩, c⟩) := by
 unfold spec_l06Put.f addF
 refine Ev.bind (spec_hasF l a b c h) ?_
 by_cases hb : (⟨⟨a, b⟩, c⟩ : Fc) ∈ l
 ·simp only [hb, decide_true, ↓reduceIte]
  exact Ev.now _
 ·simp only [hb, decide_false, Bool.false_eq_true, ↓reduceIte, show l.length < 5864062014805 by omega]
  exact Ev.now _
theorem roleB (x : Fc) (a b : Int) : (x.f0.f0 == a && x.f0.f1 == b) = decide (x.f0 = ⟨a, b⟩) := by
 obtain ⟨⟨p, q⟩, r⟩ := x
 rw [Bool.eq_iff_iff]
 simp
theorem roleBn (x : Fc) (a b : Int) : (!(x.f0.f0 == a) || !(x.f0.f1 == b)) = !decide (x.f0 = ⟨a, b⟩) := by
 rw [← roleB, Bool.not_and]
theorem spec_fol0 (l : List Fc) (s0 : List Fc) (p a b w c d e f u n : Int) (hp : p = 2 ∨ p = 4) (h : l.length ≤ 1000) (hs : s0.length ≤ 1000) :
  Ev (fun k => spec_Follows.l0 k l s0 0 p a b w c d e f u n)
   ((if p = 2 then (l.filter fun x => decide (x.f0 = ⟨c, d⟩)).map fun x => (⟨⟨a, b⟩, x.f1⟩ : Fc)
    else ((l.filter fun x => decide (x.f0 = ⟨c, d⟩)).filter fun x => decide ((⟨⟨e, f⟩, x.f1⟩ : Fc) ∈ l)).map fun x => ⟨⟨a, b⟩, x.f1⟩).foldl addF s0) := by
 have key := Ev.up l.length (fun i (s : List Fc) k => spec_Follows.l0 k l s i p a b w c d e f u n)
  (fun i s => (if p = 2 then ((l.drop i).filter fun x => decide (x.f0 = ⟨c, d⟩)).map fun x => (⟨⟨a, b⟩, x.f1⟩ : Fc)
    else (((l.drop i).filter fun x => decide (x.f0 = ⟨c, d⟩)).filter fun x => decide ((⟨⟨e, f⟩, x.f1⟩ : Fc) ∈ l)).map fun x => ⟨⟨a, b⟩, x.f1⟩).foldl addF s)
  (fun i s => s.length ≤ 1000 + i) ?_ ?_ 0 s0 (Nat.zero_le _) (by omega)
 ·exact key
 ·intro i s hi hs ih
  refine Ev.succ ?_
  simp only [spec_Follows.l0, nat_lt, nat_0, hi, ↓reduceIte, rd_T28, getD_ _ hi, getDn_ _ hi, up_ (show i < 4611686018427387904 by omega), roleB]
  rw [List.drop_eq_getElem_cons hi]
  by_cases h1 : l[i].f0 = ⟨c, d⟩
  ·simp only [h1, decide_true, ↓reduceIte, List.filter_cons_of_pos]
   rcases hp with rfl | rfl
   ·simp only [↓reduceIte, List.map_cons, List.foldl_cons]
    refine Ev.bind (spec_put s _ _ _ (by omega)) ?_
    have := addF_len s (⟨⟨a, b⟩, l[i].f1⟩ : Fc)
    have h2 := ih (addF s ⟨⟨a, b⟩, l[i].f1⟩) (by omega)
    simpa using h2
   ·simp only [show ¬ ((4 : Int) = 2) by omega, ↓reduceIte]
    refine Ev.bind (spec_hasF l _ _ _ (by omega)) ?_
    by_cases h3 : (⟨⟨e, f⟩, l[i].f1⟩ : Fc) ∈ l
    ·simp only [h3, decide_true, ↓reduceIte, List.filter_cons_of_pos, List.map_cons, List.foldl_cons]
     refine Ev.bind (spec_put s _ _ _ (by omega)) ?_
     have := addF_len s (⟨⟨a, b⟩, l[i].f1⟩ : Fc)
     have h2 := ih (addF s ⟨⟨a, b⟩, l[i].f1⟩) (by omega)
     simpa using h2
    ·have h2 := ih s (by omega)
     simpa [h3] using h2
  ·have h2 := ih s (by omega)
   simp only [h1, decide_false, Bool.false_eq_true, ↓reduceIte, not_false_eq_true, List.filter_cons_of_neg]
   exact h2
 ·intro s _
  refine Ev.succ ?_
  simp only [spec_Follows.l0, nat_lt, Nat.lt_irrefl, ↓reduceIte, List.drop_length]
  simpa using Ev.now s
theorem spec_fol2 (l : List Fc) (i0 : Nat) (p a b w c d e f u n : Int) (x y : Int) (h : l.length ≤ 1000) (B : Nat) (R : List Fc → List Fc)
  (fin : ∀ s : List Fc, s.length ≤ B + l.length → Ev (fun k => spec_Follows.l1 k l s (wrap64 ((i0 : Int) + 1)) p a b w c d e f u n) (R s)) (hB : B ≤ 1001000) (s0 : List Fc) (hs : s0.length ≤ B) :
  Ev (fun k => spec_Follows.l2 k l s0 i0 0 p a b w c d e f u n x y) (R (((l.filter fun z => decide (z.f0 = ⟨x, y⟩)).map fun z => (⟨⟨a, b⟩, z.f1⟩ : Fc)).foldl addF s0)) := by
 have key := Ev.up l.length (fun j (s : List Fc) k => spec_Follows.l2 k l s i0 j p a b w c d e f u n x y)
  (fun j s => R ((((l.drop j).filter fun z => decide (z.f0 = ⟨x, y⟩)).map fun z => (⟨⟨a, b⟩, z.f1⟩ : Fc)).foldl addF s))
  (fun j s => s.length ≤ B + j) ?_ ?_ 0 s0 (Nat.zero_le _) (by omega)
 ·exact key
 ·intro j s hj hs ih
  refine Ev.succ ?_
  simp only [spec_Follows.l2, nat_lt, nat_0, hj, ↓reduceIte, rd_T28, getD_ _ hj, getDn_ _ hj, up_ (show j < 4611686018427387904 by omega), roleB]
  rw [List.drop_eq_getElem_cons hj]
  by_cases h1 : l[j].f0 = ⟨x, y⟩
  ·simp only [h1, decide_true, ↓reduceIte, List.filter_cons_of_pos, List.map_cons, List.foldl_cons]
   refine Ev.bind (spec_put s _ _ _ (by omega)) ?_
   have := addF_len s (⟨⟨a, b⟩, l[j].f1⟩ : Fc)
   exact ih (addF s ⟨⟨a, b⟩, l[j].f1⟩) (by omega)
  ·simp only [h1, decide_false, Bool.false_eq_true, ↓reduceIte, not_false_eq_true, List.filter_cons_of_neg]
   exact ih s (by omega)
 ·intro s hs
  refine Ev.succ ?_
  simp only [spec_Follows.l2, nat_lt, Nat.lt_irrefl, ↓reduceIte, List.drop_length]
  exact fin s hs
theorem spec_fol1 (l : List Fc) (s0 : List Fc) (p a b w c d e f u n : Int) (h : l.length ≤ 1000) (hs : s0.length ≤ 1000) :
  Ev (fun k => spec_Follows.l1 k l s0 0 p a b w c d e f u n)
   (((l.filter fun x => decide (x.f0 = ⟨c, d⟩)).flatMap fun x => (l.filter fun y => decide (y.f0 = ⟨x.f1, f⟩)).map fun y => (⟨⟨a, b⟩, y.f1⟩ : Fc)).foldl addF s0) := by
 have key := Ev.up l.length (fun i (s : List Fc) k => spec_Follows.l1 k l s i p a b w c d e f u n)
  (fun i s => ((((l.drop i).filter fun x => decide (x.f0 = ⟨c, d⟩)).flatMap fun x => (l.filter fun y => decide (y.f0 = ⟨x.f1, f⟩)).map fun y => (⟨⟨a, b⟩, y.f1⟩ : Fc)).foldl addF s))
  (fun i s => s.length ≤ 1000 + l.length * i) ?_ ?_ 0 s0 (Nat.zero_le _) (by omega)
 ·exact key
 ·intro i s hi hs ih
  have hm : l.length * i ≤ 1000 * 1000 := Nat.mul_le_mul h (by omega)
  have hm2 : l.length * (i + 1) = l.length * i + l.length := Nat.mul_succ _ _
  refine Ev.succ ?_
  simp only [spec_Follows.l1, nat_lt, nat_0, hi, ↓reduceIte, rd_T28, getD_ _ hi, getDn_ _ hi, up_ (show i < 4611686018427387904 by omega), roleBn]
  rw [List.drop_eq_getElem_cons hi]
  by_cases h1 : l[i].f0 = ⟨c, d⟩
  ·simp only [h1, decide_true, Bool.not_true, Bool.false_eq_true, ↓reduceIte, List.filter_cons_of_pos, List.flatMap_cons, List.foldl_append]
   refine spec_fol2 l i p a b w c d e f u n l[i].f1 f h (1000 + l.length * i) (fun t => (((l.drop (i + 1)).filter fun x => decide (x.f0 = ⟨c, d⟩)).flatMap fun x => (l.filter fun y => decide (y.f0 = ⟨x.f1, f⟩)).map fun y => (⟨⟨a, b⟩, y.f1⟩ : Fc)).foldl addF t) ?_ (by omega) s hs
   intro t ht
   rw [up_ (show i < 4611686018427387904 by omega)]
   exact ih t (by omega)
  ·simp only [h1, decide_false, Bool.not_false, ↓reduceIte, Bool.false_eq_true, not_false_eq_true, List.filter_cons_of_neg]
   exact ih s (by omega)
 ·intro s _
  refine Ev.succ ?_
  simp only [spec_Follows.l1, nat_lt, Nat.lt_irrefl, ↓reduceIte, List.drop_length]
  simpa using Ev.now s
theorem cOk_kind {c : Cr} (h : cOk c = true) : c.f0 = 1 ∨ c.f0 = 2 ∨ c.f0 = 3 ∨ c.f0 = 4 := by
 unfold cOk credOkB at h
 by_cases h1 : c.f0 = 1
 ·exact .inl h1
 ·by_cases h2 : c.f0 = 2
  ·exact .inr (.inl h2)
  ·by_cases h3 : c.f0 = 3
   ·exact .inr (.inr (.inl h3))
   ·by_cases h4 : c.f0 = 4
    ·exact .inr (.inr (.inr h4))
    ·simp [h1, h2, h3, h4] at h
theorem spec_Fol (l : List Fc) (c : Cr) (h : l.length ≤ 1000) :
  Ev (fun k => spec_Follows.f k l c.f0 c.f1.f0 c.f1.f1 c.f2 c.f3.f0 c.f3.f1 c.f4.f0 c.f4.f1 c.f5 c.f6) (stepF l c) := by
 unfold spec_Follows.f stepF
 simp only [Option.bind_some, List.nil_append, List.length_nil, show 0 + l.length < 5864062014805 by omega, ↓reduceIte]
 refine Ev.bind (spec_CredOk _ _ _ _ _ _ _ _ _ _) ?_
 change Ev _ (if cOk c = true then (telF l c).foldl addF l else l)
 have e : credOkB c.f0 c.f1.f0 c.f1.f1 c.f2 c.f3.f0 c.f3.f1 c.f4.f0 c.f4.f1 c.f5 c.f6 = cOk c := rfl
 rw [e]
 cases hc : cOk c
 ·simp only [Bool.false_eq_true, ↓reduceIte]
  exact Ev.now _
 ·simp only [↓reduceIte]
  unfold telF
  rcases cOk_kind hc with h1 | h1 | h1 | h1
  ·simp only [h1, ↓reduceIte]
   refine Ev.bind (spec_put l _ _ _ (by omega)) ?_
   exact Ev.now _
  ·simp only [h1, show ¬ ((2 : Int) = 1) by omega, ↓reduceIte]
   refine Ev.succ ?_
   simp only [spec_Follows.j0, beq_self_eq_true, ↓reduceIte]
   have := spec_fol0 l l 2 c.f1.f0 c.f1.f1 c.f2 c.f3.f0 c.f3.f1 c.f4.f0 c.f4.f1 c.f5 c.f6 (.inl rfl) h h
   simpa using this
  ·simp only [h1, show ¬ ((3 : Int) = 1) by omega, show ¬ ((3 : Int) = 2) by omega, ↓reduceIte]
   refine Ev.succ ?_
   simp only [spec_Follows.j0, show ((3 : Int) == 4) = false by rfl, Bool.false_eq_true, ↓reduceIte]
   exact spec_fol1 l l 3 c.f1.f0 c.f1.f1 c.f2 c.f3.f0 c.f3.f1 c.f4.f0 c.f4.f1 c.f5 c.f6 h h
  ·simp only [h1, show ¬ ((4 : Int) = 1) by omega, show ¬ ((4 : Int) = 2) by omega, show ¬ ((4 : Int) = 3) by omega, ↓reduceIte]
   refine Ev.succ ?_
   simp only [spec_Follows.j0, beq_self_eq_true, ↓reduceIte]
   have := spec_fol0 l l 4 c.f1.f0 c.f1.f1 c.f2 c.f3.f0 c.f3.f1 c.f4.f0 c.f4.f1 c.f5 c.f6 (.inr rfl) h h
   simpa using this
def Right (l : List Fc) : Prop := ∀ x ∈ l, fOk x = true
theorem fOk_of {r : Rl} {w : Int} (h1 : roleOkB r.f0 r.f1 = true) (h2 : inB w 0 5 = true) : fOk ⟨r, w⟩ = true := by unfold fOk; rw [h1, h2]; rfl
theorem cOk_of {c : Cr} (h : cOk c = true) : roleOkB c.f1.f0 c.f1.f1 = true ∧ (c.f0 = 1 → inB c.f2 0 5 = true) ∧ inB c.f5 1 9999 = true := by
 unfold cOk credOkB at h
 simp only [Bool.and_eq_true] at h
 obtain ⟨⟨⟨h1, h2⟩, h3⟩, h4⟩ := h
 refine ⟨h1, ?_, h2⟩
 intro hk
 rw [if_pos hk] at h4
 simp only [Bool.and_eq_true] at h4
 exact h4.1.1
theorem telF_right {l : List Fc} {c : Cr} (hl : Right l) (hc : cOk c = true) : Right (telF l c) := by
 obtain ⟨h1, h2, _⟩ := cOk_of hc
 have hw : ∀ x ∈ l, inB x.f1 0 5 = true := fun x hx => by have := hl x hx; unfold fOk at this; simp only [Bool.and_eq_true] at this; exact this.2
 intro y hy
 unfold telF at hy
 rcases cOk_kind hc with hk | hk | hk | hk
 ·simp only [hk, ↓reduceIte, List.mem_singleton] at hy
  subst hy
  exact fOk_of h1 (h2 hk)
 ·simp only [hk, show ¬ ((2 : Int) = 1) by omega, ↓reduceIte, List.mem_map, List.mem_filter] at hy
  obtain ⟨x, ⟨hx, _⟩, rfl⟩ := hy
  exact fOk_of h1 (hw x hx)
 ·simp only [hk, show ¬ ((3 : Int) = 1) by omega, show ¬ ((3 : Int) = 2) by omega, ↓reduceIte, List.mem_flatMap, List.mem_map, List.mem_filter] at hy
  obtain ⟨x, _, z, ⟨hz, _⟩, rfl⟩ := hy
  exact fOk_of h1 (hw z hz)
 ·simp only [hk, show ¬ ((4 : Int) = 1) by omega, show ¬ ((4 : Int) = 2) by omega, show ¬ ((4 : Int) = 3) by omega, ↓reduceIte, List.mem_map, List.mem_filter] at hy
  obtain ⟨x, ⟨⟨hx, _⟩, _⟩, rfl⟩ := hy
  exact fOk_of h1 (hw x hx)
theorem stepF_right {l : List Fc} (c : Cr) (hl : Right l) : Right (stepF l c) := by
 unfold stepF
 cases hc : cOk c
 ·simpa using hl
 ·simp only [↓reduceIte]
  intro x hx
  rcases (mem_foldl _ _ _).1 hx with h | h
  ·exact hl x h
  ·exact telF_right hl hc x h
theorem stepF_nodup {l : List Fc} (c : Cr) (hl : l.Nodup) : (stepF l c).Nodup := by
 unfold stepF
 split
 ·exact foldl_nodup _ _ hl
 ·exact hl
theorem stepF_pre (l : List Fc) (c : Cr) : ∃ t, stepF l c = l ++ t := by
 unfold stepF
 split
 ·exact foldl_pre _ _
 ·exact ⟨[], by simp⟩
theorem stepF_len (l : List Fc) (c : Cr) : l.length ≤ (stepF l c).length := by
 obtain ⟨t, h⟩ := stepF_pre l c
 rw [h]
 simp
def passF (list : List Cr) (l : List Fc) : List Fc := list.foldl stepF l
theorem passF_right (list : List Cr) : ∀ {l : List Fc}, Right l → Right (passF list l) := by
 induction list with
 | nil => exact fun h => h
 | cons c cs ih => exact fun h => ih (stepF_right c h)
theorem passF_nodup (list : List Cr) : ∀ {l : List Fc}, l.Nodup → (passF list l).Nodup := by
 induction list with
 | nil => exact fun h => h
 | cons c cs ih => exact fun h => ih (stepF_nodup c h)
theorem passF_len (list : List Cr) : ∀ (l : List Fc), l.length ≤ (passF list l).length := by
 induction list with
 | nil => exact fun l => Nat.le_refl _
 | cons c cs ih => exact fun l => Nat.le_trans (stepF_len l c) (ih (stepF l c))
def allF : List Fc := (List.range 6).flatMap fun a => (List.range 4).flatMap fun b => (List.range 6).map fun (c : Nat) => (⟨⟨((a : Nat) : Int), ((b : Nat) : Int)⟩, (c : Int)⟩ : Fc)
theorem allF_len : allF.length = 144 := by decide +kernel
theorem allF_mem {x : Fc} (h : fOk x = true) : x ∈ allF := by
 obtain ⟨⟨a, b⟩, c⟩ := x
 unfold fOk roleOkB inB at h
 simp only [Bool.and_eq_true, decide_eq_true_eq] at h
 obtain ⟨⟨⟨h1, h2⟩, h3, h4⟩, h5, h6⟩ := h
 unfold allF
 simp only [List.mem_flatMap, List.mem_map, List.mem_range]
 refine ⟨a.toNat, by omega, b.toNat, by omega, c.toNat, by omega, ?_⟩
 rw [Int.toNat_of_nonneg h1, Int.toNat_of_nonneg h3, Int.toNat_of_nonneg h5]
theorem nodup_le {α : Type} [DecidableEq α] : ∀ (l u : List α), l.Nodup → (∀ x ∈ l, x ∈ u) → l.length ≤ u.length := by
 intro l
 induction l with
 | nil => intro u _ _; simp
 | cons x xs ih =>
  intro u h1 h2
  rw [List.nodup_cons] at h1
  have hx := h2 x (by simp)
  have := ih (u.erase x) h1.2 (fun y hy => (List.mem_erase_of_ne (by rintro rfl; exact h1.1 hy)).2 (h2 y (by simp [hy])))
  rw [List.length_erase_of_mem hx] at this
  have hp := List.length_pos_of_mem hx
  rw [List.length_cons]
  omega
theorem right_len {l : List Fc} (h1 : Right l) (h2 : l.Nodup) : l.length ≤ 144 := by
 rw [← allF_len]
 exact nodup_le l allF h2 (fun x hx => allF_mem (h1 x hx))
def iterF : Nat → List Cr → List Fc → List Fc
 | 0, _, l => l
 | n + 1, list, l => if l.length < (passF list l).length then iterF n list (passF list l) else passF list l
def factsF (list : List Cr) : List Fc := iterF 145 list []
theorem iterF_right (list : List Cr) : ∀ (n : Nat) {l : List Fc}, Right l → Right (iterF n list l) := by
 intro n
 induction n with
 | zero => exact fun h => h
 | succ n ih =>
  intro l h
  unfold iterF
  split
  ·exact ih (passF_right list h)
  ·exact passF_right list h
theorem iterF_nodup (list : List Cr) : ∀ (n : Nat) {l : List Fc}, l.Nodup → (iterF n list l).Nodup := by
 intro n
 induction n with
 | zero => exact fun h => h
 | succ n ih =>
  intro l h
  unfold iterF
  split
  ·exact ih (passF_nodup list h)
  ·exact passF_nodup list h
theorem factsF_right (list : List Cr) : Right (factsF list) := iterF_right list 145 (fun x hx => by simp at hx)
theorem factsF_nodup (list : List Cr) : (factsF list).Nodup := iterF_nodup list 145 List.nodup_nil
theorem factsF_len (list : List Cr) : (factsF list).length ≤ 144 := right_len (factsF_right list) (factsF_nodup list)
theorem spec_pass (list : List Cr) (hl : list.length ≤ 1048576) (l : List Fc) (h1 : Right l) (h2 : l.Nodup) (R : List Fc → Bool → List Fc)
  (fin : Ev (fun k => spec_FactsOf.l0 k list (passF list l) (decide (l.length < (passF list l).length))) (R (passF list l) (decide (l.length < (passF list l).length)))) :
  Ev (fun k => spec_FactsOf.l1 k list l false 0) (R (passF list l) (decide (l.length < (passF list l).length))) := by
 have key := Ev.up list.length (fun i (s : List Fc × Bool) k => spec_FactsOf.l1 k list s.1 s.2 i)
  (fun i s => R (passF list l) (decide (l.length < (passF list l).length)))
  (fun i s => Right s.1 ∧ s.1.Nodup ∧ l.length ≤ s.1.length ∧ s.2 = decide (l.length < s.1.length) ∧ passF (list.drop i) s.1 = passF list l) ?_ ?_ 0 (l, false) (Nat.zero_le _)
  ⟨h1, h2, Nat.le_refl _, by simp, by simp⟩
 ·exact key
 ·rintro i ⟨s, b⟩ hi ⟨q1, q2, q3, q4, q5⟩ ih
  simp only at q1 q2 q3 q4 q5
  have hs := right_len q1 q2
  refine Ev.succ ?_
  simp only [spec_FactsOf.l1, nat_lt, nat_0, hi, ↓reduceIte, rd_T35, getD_ _ hi, getDn_ _ hi, up_ (show i < 4611686018427387904 by omega)]
  refine Ev.bind (spec_Fol s list[i] (by omega)) ?_
  have hd : passF (list.drop (i + 1)) (stepF s list[i]) = passF list l := by
   rw [← q5, List.drop_eq_getElem_cons hi]
   rfl
  have hle := stepF_len s list[i]
  by_cases hg : s.length < (stepF s list[i]).length
  ·simp only [hg, ↓reduceIte]
   exact ih (stepF s list[i], true) ⟨stepF_right _ q1, stepF_nodup _ q2, by simp only; omega, by simp only; rw [decide_eq_true (by omega)], hd⟩
  ·simp only [hg, ↓reduceIte]
   refine ih (stepF s list[i], b) ⟨stepF_right _ q1, stepF_nodup _ q2, by simp only; omega, ?_, hd⟩
   rw [q4]
   congr 1
   have : (stepF s list[i]).length = s.length := by omega
   rw [this]
 ·rintro ⟨s, b⟩ ⟨q1, q2, q3, q4, q5⟩
  simp only at q1 q2 q3 q4 q5
  refine Ev.succ ?_
  simp only [spec_FactsOf.l1, nat_lt, Nat.lt_irrefl, ↓reduceIte]
  have e : s = passF list l := by rw [← q5, List.drop_length]; rfl
  subst e
  rw [q4]
  exact fin
theorem spec_iter (list : List Cr) (hl : list.length ≤ 1048576) : ∀ (n : Nat) (l : List Fc), Right l → l.Nodup → 145 ≤ n + l.length →
  Ev (fun k => spec_FactsOf.l0 k list l true) (iterF n list l) := by
 intro n
 induction n with
 | zero =>
  intro l h1 h2 h3
  have := right_len h1 h2
  omega
 | succ n ih =>
  intro l h1 h2 h3
  refine Ev.succ ?_
  simp only [spec_FactsOf.l0, ↓reduceIte]
  unfold iterF
  have := spec_pass list hl l h1 h2 (fun p b => if b = true then iterF n list p else p) ?_
  ·by_cases hg : l.length < (passF list l).length
   ·simpa [hg] using this
   ·simpa [hg] using this
  ·by_cases hg : l.length < (passF list l).length
   ·simp only [hg, decide_true, ↓reduceIte]
    exact ih _ (passF_right list h1) (passF_nodup list h2) (by omega)
   ·simp only [hg, decide_false, Bool.false_eq_true, ↓reduceIte]
    refine Ev.succ ?_
    simp only [spec_FactsOf.l0, Bool.false_eq_true, ↓reduceIte]
    exact Ev.now _
theorem spec_Facts (list : List Cr) (hl : list.length ≤ 1048576) : Ev (fun k => spec_FactsOf.f k list) (factsF list) := by
 unfold spec_FactsOf.f
 exact spec_iter list hl 145 [] (fun x hx => by simp at hx) List.nodup_nil (by simp)
end Q
end Go.Proofs.Ytljhfomkakhflaa
