/-
The program's own way to the facts of words: where they stand, what a word tells behind them, and that it finds the same facts; who is alive; who is a member.
-/
import Derived.Test.YtljhfomkakhflaaKEQ13
namespace Go.Proofs.Ytljhfomkakhflaa
open Go.RowKit Go.Proofs.YtljhfomkakhflaaW.PrintWords Go.Proofs.YtljhfomkakhflaaW.PrintLast Go.Proofs.YtljhfomkakhflaaW.PrintMore Go.Proofs.Ytljhfomkakhflaa.PA
set_option linter.unusedVariables false
set_option linter.unusedSimpArgs false
namespace Q
abbrev Dv := S81
abbrev Fo := S75
theorem rdI {ws : List Int} {i : Nat} (h : i < ws.length) : rd ws (i : Int) = ws[i] := by simp [rd, h]
theorem impl_factOk_ (a b c : Int) : impl_factOk.f a b c = some (fOk ⟨⟨a, b⟩, c⟩) := by
 unfold impl_factOk.f fOk
 simp only [impl_RoleOk, impl_isPerson, Option.bind_some]
 cases roleOkB a b <;> simp
def whoAt (r : Rl) : List Fc → Int → List Int
 | [], _ => []
 | x :: xs, i => if (decide (x.f0 = r) && fOk x) = true then i :: whoAt r xs (i + 1) else whoAt r xs (i + 1)
def whoL (l : List Fc) (r : Rl) : List Int := whoAt r l 0
theorem whoAt_bound (r : Rl) : ∀ (xs : List Fc) (n : Int), ∀ i ∈ whoAt r xs n, n ≤ i ∧ i < n + xs.length := by
 intro xs
 induction xs with
 | nil => intro n i h; simp [whoAt] at h
 | cons x xs ih =>
  intro n i h
  unfold whoAt at h
  rw [List.length_cons]
  split at h
  ·rcases List.mem_cons.1 h with rfl | h
   ·omega
   ·have := ih (n + 1) i h; omega
  ·have := ih (n + 1) i h; omega
theorem whoL_bound {l : List Fc} {r : Rl} {i : Int} (h : i ∈ whoL l r) : 0 ≤ i ∧ i < l.length := by
 have := whoAt_bound r l 0 i h
 omega
theorem whoAt_len (r : Rl) : ∀ (xs : List Fc) (n : Int), (whoAt r xs n).length ≤ xs.length := by
 intro xs
 induction xs with
 | nil => intro n; simp [whoAt]
 | cons x xs ih =>
  intro n
  unfold whoAt
  have := ih (n + 1)
  split <;> simp <;> omega
theorem whoL_len (l : List Fc) (r : Rl) : (whoL l r).length ≤ l.length := whoAt_len r l 0
theorem whoAt_map (r : Rl) (l : List Fc) : ∀ (xs pre : List Fc), l = pre ++ xs → (whoAt r xs pre.length).map (fun i => rd_T28 l i) = xs.filter fun x => decide (x.f0 = r) && fOk x := by
 intro xs
 induction xs with
 | nil => intro pre h; rfl
 | cons x xs ih =>
  intro pre h
  have := ih (pre ++ [x]) (by rw [h]; simp)
  simp only [List.length_append, List.length_singleton] at this
  have e : rd_T28 l (pre.length : Int) = x := by
   unfold rd_T28
   rw [h]
   simp
  unfold whoAt
  have e2 : ((pre.length : Int) + 1) = ((pre.length + 1 : Nat) : Int) := by omega
  split
  ·rename_i hc
   rw [List.filter_cons_of_pos (p := fun x => decide (x.f0 = r) && fOk x) hc, List.map_cons, e, e2, this]
  ·rename_i hc
   rw [List.filter_cons_of_neg (p := fun x => decide (x.f0 = r) && fOk x) hc, e2, this]
theorem whoL_map {l : List Fc} (hl : Right l) (r : Rl) : (whoL l r).map (fun i => rd_T28 l i) = l.filter fun x => decide (x.f0 = r) := by
 have := whoAt_map r l l [] rfl
 simp only [List.length_nil] at this
 unfold whoL
 rw [show ((0 : Int)) = ((0 : Nat) : Int) from rfl, this]
 exact List.filter_congr (fun x hx => by rw [hl x hx, Bool.and_true])
theorem impl_who (l : List Fc) (a b : Int) (h : l.length ≤ 1048576) : Ev (fun k => impl_whoOf.f k l a b) (whoL l ⟨a, b⟩) := by
 unfold impl_whoOf.f
 have key := Ev.up l.length (fun i (s : List Int) k => impl_whoOf.l0 k s l l.length i a b) (fun i s => s ++ whoAt ⟨a, b⟩ (l.drop i) i) (fun i s => s.length ≤ i) ?_ ?_ 0 [] (Nat.zero_le _) (by simp)
 ·exact key
 ·intro i s hi hs ih
  refine Ev.succ ?_
  simp only [impl_whoOf.l0, nat_lt, nat_0, hi, ↓reduceIte, rd_T28, getD_ _ hi, getDn_ _ hi, up_ (show i < 4611686018427387904 by omega), roleB, impl_factOk_, Option.bind_some, show s.length < 17592186044416 by omega]
  rw [List.drop_eq_getElem_cons hi]
  unfold whoAt
  by_cases h1 : l[i].f0 = ⟨a, b⟩
  ·simp only [h1, decide_true, ↓reduceIte, Bool.true_and]
   have e : fOk ⟨⟨l[i].f0.f0, l[i].f0.f1⟩, l[i].f1⟩ = fOk l[i] := rfl
   rw [show ((⟨⟨a, b⟩, l[i].f1⟩ : Fc)) = l[i] from by rw [← h1]]
   cases h2 : fOk l[i]
   ·simp only [Bool.false_eq_true, ↓reduceIte]
    exact ih s (by omega)
   ·simp only [↓reduceIte]
    rw [snoc_ s (i : Int) (whoAt _ _ _)]
    exact ih (s ++ [(i : Int)]) (by simp; omega)
  ·simp only [h1, decide_false, Bool.false_eq_true, ↓reduceIte, Bool.false_and]
   exact ih s (by omega)
 ·intro s _
  refine Ev.succ ?_
  simp only [impl_whoOf.l0, nat_lt, Nat.lt_irrefl, ↓reduceIte, List.drop_length]
  simpa [whoAt] using Ev.now s
def deriveL (l : List Fc) (c : Cr) : List Dv :=
 if c.f0 = 1 then [⟨⟨c.f1, c.f2⟩, []⟩]
 else if c.f0 = 2 then (whoL l c.f3).map fun i => ⟨⟨c.f1, (rd_T28 l i).f1⟩, [i]⟩
 else if c.f0 = 3 then (whoL l c.f3).flatMap fun i => (whoL l ⟨(rd_T28 l i).f1, c.f4.f1⟩).map fun j => ⟨⟨c.f1, (rd_T28 l j).f1⟩, [i, j]⟩
 else if c.f0 = 4 then (whoL l c.f3).flatMap fun i => if idxF (isFc c.f4.f0 c.f4.f1 (rd_T28 l i).f1) l 0 ≥ 0 then [⟨⟨c.f1, (rd_T28 l i).f1⟩, [i, idxF (isFc c.f4.f0 c.f4.f1 (rd_T28 l i).f1) l 0]⟩] else []
 else []
theorem flatIf {α β : Type} (p : α → Prop) [DecidablePred p] (g : α → β) : ∀ xs : List α, (xs.flatMap fun x => if p x then [g x] else []) = (xs.filter fun x => decide (p x)).map g := by
 intro xs
 induction xs with
 | nil => rfl
 | cons x xs ih =>
  rw [List.flatMap_cons, ih]
  by_cases h : p x
  ·simp [h]
  ·simp [h]
theorem derive_facts {l : List Fc} (hl : Right l) (c : Cr) : (deriveL l c).map (·.f0) = telF l c := by
 unfold deriveL telF
 split
 ·rfl
 ·split
  ·rw [← whoL_map hl, List.map_map, List.map_map]
   rfl
  ·split
   ·rw [List.map_flatMap, ← whoL_map hl c.f3, List.flatMap_map]
    congr 1
    funext i
    rw [List.map_map, ← whoL_map hl, List.map_map]
    rfl
   ·split
    ·rw [List.map_flatMap]
     have e : (fun i => ((if idxF (isFc c.f4.f0 c.f4.f1 (rd_T28 l i).f1) l 0 ≥ 0 then [(⟨⟨c.f1, (rd_T28 l i).f1⟩, [i, idxF (isFc c.f4.f0 c.f4.f1 (rd_T28 l i).f1) l 0]⟩ : Dv)] else []).map (·.f0)))
       = fun i => if ((⟨c.f4, (rd_T28 l i).f1⟩ : Fc) ∈ l) then [(⟨c.f1, (rd_T28 l i).f1⟩ : Fc)] else [] := by
      funext i
      have h := idxF_any (isFc c.f4.f0 c.f4.f1 (rd_T28 l i).f1) l 0 (Int.le_refl _)
      rw [any_memF] at h
      have h' : (idxF (isFc c.f4.f0 c.f4.f1 (rd_T28 l i).f1) l 0 ≥ 0) ↔ ((⟨c.f4, (rd_T28 l i).f1⟩ : Fc) ∈ l) := by
       rw [← decide_eq_true_iff (p := idxF _ l 0 ≥ 0), h, decide_eq_true_iff]
      by_cases hm : (⟨c.f4, (rd_T28 l i).f1⟩ : Fc) ∈ l
      ·rw [if_pos hm, if_pos (h'.2 hm)]; rfl
      ·rw [if_neg hm, if_neg (fun q => hm (h'.1 q))]; rfl
     rw [e, ← whoL_map hl c.f3]
     rw [← flatIf (fun x : Fc => (⟨c.f4, x.f1⟩ : Fc) ∈ l) (fun x => (⟨c.f1, x.f1⟩ : Fc)), List.flatMap_map]
    ·rfl
theorem impl_der0 (l : List Fc) (ws : List Int) (hw : ∀ i ∈ ws, 0 ≤ i ∧ i < l.length) (p a b w c d e f u n : Int) (h : ws.length ≤ 1000) (s0 : List Dv) (hs : s0.length ≤ 1000) :
  Ev (fun k => impl_derive.l0 k l ws ws.length 0 p a b w c d e f u n s0) (s0 ++ ws.map fun i => ⟨⟨⟨a, b⟩, (rd_T28 l i).f1⟩, [i]⟩) := by
 have key := Ev.up ws.length (fun i (s : List Dv) k => impl_derive.l0 k l ws ws.length i p a b w c d e f u n s) (fun i s => s ++ (ws.drop i).map fun i => (⟨⟨⟨a, b⟩, (rd_T28 l i).f1⟩, [i]⟩ : Dv)) (fun i s => s.length ≤ 1000 + i) ?_ ?_ 0 s0 (Nat.zero_le _) (by omega)
 ·exact key
 ·intro i s hi hs ih
  have hb := hw ws[i] (List.getElem_mem hi)
  refine Ev.succ ?_
  simp only [impl_derive.l0, nat_lt, nat_0, hi, ↓reduceIte, rdI hi, hb.1, hb.2, up_ (show i < 4611686018427387904 by omega), show s.length < 2932031007402 by omega]
  rw [List.drop_eq_getElem_cons hi, List.map_cons]
  have h2 := ih (s ++ [⟨⟨⟨a, b⟩, (rd_T28 l ws[i]).f1⟩, [ws[i]]⟩]) (by simp; omega)
  rw [List.append_assoc] at h2
  exact h2
 ·intro s _
  refine Ev.succ ?_
  simp only [impl_derive.l0, nat_lt, Nat.lt_irrefl, ↓reduceIte, List.drop_length, List.map_nil, List.append_nil]
  exact Ev.now s
theorem impl_der2 (l : List Fc) (ws vs : List Int) (i0 : Nat) (x : Int) (hv : ∀ i ∈ vs, 0 ≤ i ∧ i < l.length) (p a b w c d e f u n : Int) (h : vs.length ≤ 1000) (B : Nat) (hB : B ≤ 1001000) (R : List Dv → List Dv)
  (fin : ∀ s : List Dv, s.length ≤ B + vs.length → Ev (fun k => impl_derive.l1 k l ws ws.length (wrap64 ((i0 : Int) + 1)) p a b w c d e f u n s) (R s)) (s0 : List Dv) (hs : s0.length ≤ B) :
  Ev (fun k => impl_derive.l2 k l x ws ws.length i0 vs vs.length 0 p a b w c d e f u n s0) (R (s0 ++ vs.map fun j => ⟨⟨⟨a, b⟩, (rd_T28 l j).f1⟩, [x, j]⟩)) := by
 have key := Ev.up vs.length (fun j (s : List Dv) k => impl_derive.l2 k l x ws ws.length i0 vs vs.length j p a b w c d e f u n s) (fun j s => R (s ++ (vs.drop j).map fun j => (⟨⟨⟨a, b⟩, (rd_T28 l j).f1⟩, [x, j]⟩ : Dv))) (fun j s => s.length ≤ B + j) ?_ ?_ 0 s0 (Nat.zero_le _) (by omega)
 ·exact key
 ·intro j s hj hs ih
  have hb := hv vs[j] (List.getElem_mem hj)
  refine Ev.succ ?_
  simp only [impl_derive.l2, nat_lt, nat_0, hj, ↓reduceIte, rdI hj, hb.1, hb.2, up_ (show j < 4611686018427387904 by omega), show s.length < 2932031007402 by omega]
  rw [List.drop_eq_getElem_cons hj, List.map_cons]
  have h2 := ih (s ++ [⟨⟨⟨a, b⟩, (rd_T28 l vs[j]).f1⟩, [x, vs[j]]⟩]) (by simp; omega)
  rw [List.append_assoc] at h2
  exact h2
 ·intro s hs
  refine Ev.succ ?_
  simp only [impl_derive.l2, nat_lt, Nat.lt_irrefl, ↓reduceIte, List.drop_length, List.map_nil, List.append_nil]
  exact fin s hs
theorem impl_der1 (l : List Fc) (hl : l.length ≤ 1000) (ws : List Int) (hw : ∀ i ∈ ws, 0 ≤ i ∧ i < l.length) (p a b w c d e f u n : Int) (h : ws.length ≤ 1000) (s0 : List Dv) (hs : s0.length ≤ 1000) :
  Ev (fun k => impl_derive.l1 k l ws ws.length 0 p a b w c d e f u n s0) (s0 ++ ws.flatMap fun i => (whoL l ⟨(rd_T28 l i).f1, f⟩).map fun j => ⟨⟨⟨a, b⟩, (rd_T28 l j).f1⟩, [i, j]⟩) := by
 have key := Ev.up ws.length (fun i (s : List Dv) k => impl_derive.l1 k l ws ws.length i p a b w c d e f u n s) (fun i s => s ++ (ws.drop i).flatMap fun i => (whoL l ⟨(rd_T28 l i).f1, f⟩).map fun j => (⟨⟨⟨a, b⟩, (rd_T28 l j).f1⟩, [i, j]⟩ : Dv)) (fun i s => s.length ≤ 1000 + l.length * i) ?_ ?_ 0 s0 (Nat.zero_le _) (by omega)
 ·exact key
 ·intro i s hi hs ih
  have hm : l.length * i ≤ 1000 * 1000 := Nat.mul_le_mul hl (by omega)
  have hm2 : l.length * (i + 1) = l.length * i + l.length := Nat.mul_succ _ _
  have hb := hw ws[i] (List.getElem_mem hi)
  refine Ev.succ ?_
  simp only [impl_derive.l1, nat_lt, nat_0, hi, ↓reduceIte, rdI hi, hb.1, hb.2]
  refine Ev.bind (impl_who l _ _ (by omega)) ?_
  have hwl := whoL_len l ⟨(rd_T28 l ws[i]).f1, f⟩
  rw [List.drop_eq_getElem_cons hi, List.flatMap_cons, ← List.append_assoc]
  refine impl_der2 l ws (whoL l ⟨(rd_T28 l ws[i]).f1, f⟩) i ws[i] (fun j hj => whoL_bound hj) p a b w c d e f u n (by omega) (1000 + l.length * i) (by omega) (fun t => t ++ (ws.drop (i + 1)).flatMap fun i => (whoL l ⟨(rd_T28 l i).f1, f⟩).map fun j => (⟨⟨⟨a, b⟩, (rd_T28 l j).f1⟩, [i, j]⟩ : Dv)) ?_ s hs
  intro t ht
  rw [up_ (show i < 4611686018427387904 by omega)]
  exact ih t (by omega)
 ·intro s _
  refine Ev.succ ?_
  simp only [impl_derive.l1, nat_lt, Nat.lt_irrefl, ↓reduceIte, List.drop_length, List.flatMap_nil, List.append_nil]
  exact Ev.now s
theorem impl_der3 (l : List Fc) (hl : l.length ≤ 1000) (ws : List Int) (hw : ∀ i ∈ ws, 0 ≤ i ∧ i < l.length) (p a b w c d e f u n : Int) (h : ws.length ≤ 1000) (s0 : List Dv) (hs : s0.length ≤ 1000) :
  Ev (fun k => impl_derive.l3 k l ws ws.length 0 p a b w c d e f u n s0) (s0 ++ ws.flatMap fun i => if idxF (isFc e f (rd_T28 l i).f1) l 0 ≥ 0 then [(⟨⟨⟨a, b⟩, (rd_T28 l i).f1⟩, [i, idxF (isFc e f (rd_T28 l i).f1) l 0]⟩ : Dv)] else []) := by
 have key := Ev.up ws.length (fun i (s : List Dv) k => impl_derive.l3 k l ws ws.length i p a b w c d e f u n s) (fun i s => s ++ (ws.drop i).flatMap fun i => if idxF (isFc e f (rd_T28 l i).f1) l 0 ≥ 0 then [(⟨⟨⟨a, b⟩, (rd_T28 l i).f1⟩, [i, idxF (isFc e f (rd_T28 l i).f1) l 0]⟩ : Dv)] else []) (fun i s => s.length ≤ 1000 + i) ?_ ?_ 0 s0 (Nat.zero_le _) (by omega)
 ·exact key
 ·intro i s hi hs ih
  have hb := hw ws[i] (List.getElem_mem hi)
  refine Ev.succ ?_
  simp only [impl_derive.l3, nat_lt, nat_0, hi, ↓reduceIte, rdI hi, hb.1, hb.2]
  refine Ev.bind (indexF l _ _ _ (by omega)) ?_
  rw [List.drop_eq_getElem_cons hi, List.flatMap_cons, ← List.append_assoc]
  by_cases h1 : idxF (isFc e f (rd_T28 l ws[i]).f1) l 0 ≥ 0
  ·simp only [h1, ↓reduceIte, up_ (show i < 4611686018427387904 by omega), show s.length < 2932031007402 by omega]
   refine ih _ ?_
   simp
   omega
  ·simp only [h1, ↓reduceIte, up_ (show i < 4611686018427387904 by omega), List.append_nil]
   exact ih _ (by omega)
 ·intro s _
  refine Ev.succ ?_
  simp only [impl_derive.l3, nat_lt, Nat.lt_irrefl, ↓reduceIte, List.drop_length, List.flatMap_nil, List.append_nil]
  exact Ev.now s
theorem impl_der (l : List Fc) (hl : l.length ≤ 1000) (c : Cr) :
  Ev (fun k => impl_derive.f k l c.f0 c.f1.f0 c.f1.f1 c.f2 c.f3.f0 c.f3.f1 c.f4.f0 c.f4.f1 c.f5 c.f6) (deriveL l c) := by
 unfold impl_derive.f deriveL
 simp only [Option.bind_some, List.nil_append, List.length_nil, show 0 < 2932031007402 by omega, ↓reduceIte]
 have hb : ∀ i ∈ whoL l ⟨c.f3.f0, c.f3.f1⟩, 0 ≤ i ∧ i < l.length := fun i hi => whoL_bound hi
 have hn := whoL_len l ⟨c.f3.f0, c.f3.f1⟩
 refine Ev.ite (fun h1 => ?_) (fun h1 => ?_)
 ·rw [if_pos h1]
  exact Ev.now _
 ·rw [if_neg h1]
  refine Ev.ite (fun h2 => ?_) (fun h2 => ?_)
  ·rw [if_pos h2]
   refine Ev.bind (impl_who l _ _ (by omega)) ?_
   exact impl_der0 l _ hb _ _ _ _ _ _ _ _ _ _ (by omega) [] (by simp)
  ·rw [if_neg h2]
   refine Ev.ite (fun h3 => ?_) (fun h3 => ?_)
   ·rw [if_pos h3]
    refine Ev.bind (impl_who l _ _ (by omega)) ?_
    exact impl_der1 l hl _ hb _ _ _ _ _ _ _ _ _ _ (by omega) [] (by simp)
   ·rw [if_neg h3]
    refine Ev.ite (fun h4 => ?_) (fun h4 => ?_)
    ·rw [if_pos h4]
     refine Ev.bind (impl_who l _ _ (by omega)) ?_
     exact impl_der3 l hl _ hb _ _ _ _ _ _ _ _ _ _ (by omega) [] (by simp)
    ·rw [if_neg h4]
     exact Ev.now _
def addO (k : Int) (s : List Fc × List Fo) (d : Dv) : List Fc × List Fo := if d.f0 ∈ s.1 then s else (s.1 ++ [d.f0], s.2 ++ [⟨d.f0, k, d.f1⟩])
theorem addO_fst (k : Int) (s : List Fc × List Fo) (d : Dv) : (addO k s d).1 = addF s.1 d.f0 := by unfold addO addF; split <;> rfl
def Told (s : List Fc × List Fo) : Prop := s.2.map (·.f0) = s.1
theorem addO_told {k : Int} {s : List Fc × List Fo} {d : Dv} (h : Told s) : Told (addO k s d) := by
 unfold addO
 split
 ·exact h
 ·unfold Told at h ⊢
  simp [h]
theorem foldO_fst (k : Int) (ds : List Dv) : ∀ s : List Fc × List Fo, (ds.foldl (addO k) s).1 = (ds.map (·.f0)).foldl addF s.1 := by
 induction ds with
 | nil => intro s; rfl
 | cons d ds ih =>
  intro s
  rw [List.foldl_cons, ih, addO_fst, List.map_cons, List.foldl_cons]
theorem foldO_told (k : Int) (ds : List Dv) : ∀ {s : List Fc × List Fo}, Told s → Told (ds.foldl (addO k) s) := by
 induction ds with
 | nil => exact fun h => h
 | cons d ds ih => exact fun h => ih (addO_told h)
def stepO (s : List Fc × List Fo) (c : Cr) (k : Int) : List Fc × List Fo := if cOk c = true then (deriveL s.1 c).foldl (addO k) s else s
theorem stepO_fst {s : List Fc × List Fo} (h : Right s.1) (c : Cr) (k : Int) : (stepO s c k).1 = stepF s.1 c := by
 unfold stepO stepF
 split
 ·rw [foldO_fst, derive_facts h]
 ·rfl
theorem stepO_told {s : List Fc × List Fo} (h : Told s) (c : Cr) (k : Int) : Told (stepO s c k) := by
 unfold stepO
 split
 ·exact foldO_told k _ h
 ·exact h
def passO : List Cr → Int → List Fc × List Fo → List Fc × List Fo
 | [], _, s => s
 | c :: cs, k, s => passO cs (k + 1) (stepO s c k)
theorem passO_fst (list : List Cr) : ∀ (k : Int) {s : List Fc × List Fo}, Right s.1 → (passO list k s).1 = passF list s.1 := by
 induction list with
 | nil => intro k s h; rfl
 | cons c cs ih =>
  intro k s h
  unfold passO
  rw [ih (k + 1) (by rw [stepO_fst h]; exact stepF_right c h), stepO_fst h]
  rfl
theorem passO_told (list : List Cr) : ∀ (k : Int) {s : List Fc × List Fo}, Told s → Told (passO list k s) := by
 induction list with
 | nil => exact fun k s h => h
 | cons c cs ih => exact fun k s h => ih (k + 1) (stepO_told h c k)
def iterO : Nat → List Cr → List Fc × List Fo → List Fc × List Fo
 | 0, _, s => s
 | n + 1, list, s => if s.1.length < (passO list 0 s).1.length then iterO n list (passO list 0 s) else passO list 0 s
def foundF (list : List Cr) : List Fo := (iterO 145 list ([], [])).2
theorem iterO_fst (list : List Cr) : ∀ (n : Nat) {s : List Fc × List Fo}, Right s.1 → (iterO n list s).1 = iterF n list s.1 := by
 intro n
 induction n with
 | zero => exact fun _ => rfl
 | succ n ih =>
  intro s h
  unfold iterO iterF
  rw [passO_fst list 0 h]
  split
  ·rw [ih (by rw [passO_fst list 0 h]; exact passF_right list h), passO_fst list 0 h]
  ·rw [passO_fst list 0 h]
theorem iterO_told (list : List Cr) : ∀ (n : Nat) {s : List Fc × List Fo}, Told s → Told (iterO n list s) := by
 intro n
 induction n with
 | zero => exact fun h => h
 | succ n ih =>
  intro s h
  unfold iterO
  split
  ·exact ih (passO_told list 0 h)
  ·exact passO_told list 0 h
theorem right_nil : Right ([] : List Fc) := fun x hx => by simp at hx
theorem foundF_facts (list : List Cr) : (foundF list).map (·.f0) = factsF list := by
 have h := iterO_told list 145 (s := ([], [])) (by unfold Told; rfl)
 unfold Told at h
 unfold foundF factsF
 rw [h, iterO_fst list 145 right_nil]
theorem impl_clone (l : List Fc) (h : l.length ≤ 1000) : impl_Fact_52.f l = some l := by
 unfold impl_Fact_52.f
 rw [if_pos (by omega)]
theorem impl_found2 (list : List Cr) (bf : Int) (i0 : Nat) (ds : List Dv) (hd : ds.length ≤ 1002000) (R : List Fc × List Fo → List Fo)
  (s0 : List Fc × List Fo) (h1 : Right s0.1) (h2 : s0.1.Nodup) (h4 : Told s0) (hds : ∀ d ∈ ds, fOk d.f0 = true)
  (fin : Ev (fun k => impl_findFacts.l1 k list (ds.foldl (addO i0) s0).1 (ds.foldl (addO i0) s0).2 bf list list.length (wrap64 ((i0 : Int) + 1))) (R (ds.foldl (addO i0) s0))) :
  Ev (fun k => impl_findFacts.l2 k list s0.1 s0.2 bf i0 list list.length i0 ds ds.length 0) (R (ds.foldl (addO i0) s0)) := by
 have key := Ev.up ds.length (fun j (s : List Fc × List Fo) k => impl_findFacts.l2 k list s.1 s.2 bf i0 list list.length i0 ds ds.length j)
  (fun j s => R (ds.foldl (addO i0) s0)) (fun j s => Right s.1 ∧ s.1.Nodup ∧ Told s ∧ (ds.drop j).foldl (addO i0) s = ds.foldl (addO i0) s0) ?_ ?_ 0 s0 (Nat.zero_le _) ⟨h1, h2, h4, by simp⟩
 ·exact key
 ·rintro j ⟨s, o⟩ hj ⟨q1, q2, q4, q5⟩ ih
  simp only at q1 q2 q4 q5
  have hs := right_len q1 q2
  have ho : o.length ≤ 144 := by
   have : o.map (·.f0) = s := q4
   have h := congrArg List.length this
   rw [List.length_map] at h
   omega
  have hd := hds ds[j] (List.getElem_mem hj)
  refine Ev.succ ?_
  simp only [impl_findFacts.l2, nat_lt, nat_0, hj, ↓reduceIte, rd_T81, getD_ _ hj, getDn_ _ hj, up_ (show j < 4611686018427387904 by omega)]
  refine Ev.bind (containsF s _ _ _ (by omega)) ?_
  have e : (ds.drop (j + 1)).foldl (addO i0) (addO i0 (s, o) ds[j]) = ds.foldl (addO i0) s0 := by
   rw [← q5, List.drop_eq_getElem_cons hj]
   rfl
  change Ev (fun k => if decide (ds[j].f0 ∈ s) = true then _ else _) _
  by_cases hm : ds[j].f0 ∈ s
  ·simp only [hm, decide_true, ↓reduceIte]
   have e1 : addO i0 (s, o) ds[j] = (s, o) := by unfold addO; rw [if_pos hm]
   rw [e1] at e
   exact ih (s, o) ⟨q1, q2, q4, e⟩
  ·simp only [hm, decide_false, Bool.false_eq_true, ↓reduceIte, show s.length < 5864062014805 by omega, show o.length < 2513169434916 by omega]
   have e1 : addO i0 (s, o) ds[j] = (s ++ [ds[j].f0], o ++ [⟨ds[j].f0, i0, ds[j].f1⟩]) := by unfold addO; rw [if_neg hm]
   rw [e1] at e
   refine ih (s ++ [ds[j].f0], o ++ [⟨ds[j].f0, i0, ds[j].f1⟩]) ⟨?_, ?_, ?_, e⟩
   ·intro x hx
    rcases List.mem_append.1 hx with hx | hx
    ·exact q1 x hx
    ·rw [List.mem_singleton.1 hx]; exact hd
   ·have := addF_nodup ds[j].f0 q2
    unfold addF at this
    rw [if_neg hm] at this
    exact this
   ·rw [← e1]
    exact addO_told q4
 ·rintro ⟨s, o⟩ ⟨q1, q2, q4, q5⟩
  simp only at q1 q2 q4 q5
  rw [List.drop_length] at q5
  refine Ev.succ ?_
  simp only [impl_findFacts.l2, nat_lt, Nat.lt_irrefl, ↓reduceIte]
  have : (s, o) = ds.foldl (addO i0) s0 := q5
  rw [← this] at fin ⊢
  exact fin
theorem deriveL_len (l : List Fc) (c : Cr) (h : l.length ≤ 1000) : (deriveL l c).length ≤ 1002000 := by
 have hn : ∀ r, (whoL l r).length ≤ 1000 := fun r => Nat.le_trans (whoL_len l r) h
 have flat : ∀ (B : Nat) (xs : List Int) (g : Int → List Dv), (∀ i, (g i).length ≤ B) → (xs.flatMap g).length ≤ xs.length * B := by
  intro B xs g hg
  induction xs with
  | nil => simp
  | cons x xs ih =>
   rw [List.flatMap_cons, List.length_append, List.length_cons, Nat.succ_mul]
   have := hg x
   omega
 unfold deriveL
 split
 ·simp
 ·split
  ·have := hn c.f3
   rw [List.length_map]
   omega
  ·split
   ·have h1 := flat 1000 (whoL l c.f3) (fun i => (whoL l ⟨(rd_T28 l i).f1, c.f4.f1⟩).map fun j => ⟨⟨c.f1, (rd_T28 l j).f1⟩, [i, j]⟩) (fun i => by rw [List.length_map]; exact hn _)
    have h2 : (whoL l c.f3).length * 1000 ≤ 1000 * 1000 := Nat.mul_le_mul_right _ (hn _)
    omega
   ·split
    ·have h1 := flat 1 (whoL l c.f3) (fun i => if idxF (isFc c.f4.f0 c.f4.f1 (rd_T28 l i).f1) l 0 ≥ 0 then [⟨⟨c.f1, (rd_T28 l i).f1⟩, [i, idxF (isFc c.f4.f0 c.f4.f1 (rd_T28 l i).f1) l 0]⟩] else []) (fun i => by split <;> simp)
     have h2 := hn c.f3
     omega
    ·simp
theorem impl_found1 (list : List Cr) (hl : list.length ≤ 1048576) (bf : Int) (s0 : List Fc × List Fo) (h1 : Right s0.1) (h2 : s0.1.Nodup) (h4 : Told s0) (R : List Fc × List Fo → List Fo)
  (fin : Ev (fun k => impl_findFacts.l0 k list (passO list 0 s0).1 (passO list 0 s0).2 bf) (R (passO list 0 s0))) :
  Ev (fun k => impl_findFacts.l1 k list s0.1 s0.2 bf list list.length 0) (R (passO list 0 s0)) := by
 have key := Ev.up list.length (fun i (s : List Fc × List Fo) k => impl_findFacts.l1 k list s.1 s.2 bf list list.length i)
  (fun i s => R (passO list 0 s0)) (fun i s => Right s.1 ∧ s.1.Nodup ∧ Told s ∧ passO (list.drop i) i s = passO list 0 s0) ?_ ?_ 0 s0 (Nat.zero_le _) ⟨h1, h2, h4, by simp⟩
 ·exact key
 ·rintro i ⟨s, o⟩ hi ⟨q1, q2, q4, q5⟩ ih
  simp only at q1 q2 q4 q5
  have hs := right_len q1 q2
  refine Ev.succ ?_
  simp only [impl_findFacts.l1, nat_lt, nat_0, hi, ↓reduceIte, rd_T35, getD_ _ hi, getDn_ _ hi]
  refine Ev.bind (impl_CredOk _ _ _ _ _ _ _ _ _ _) ?_
  change Ev (fun k => if cOk list[i] = true then _ else _) _
  have e : passO (list.drop (i + 1)) ((i + 1 : Nat) : Int) (stepO (s, o) list[i] i) = passO list 0 s0 := by
   rw [← q5, List.drop_eq_getElem_cons hi]
   rfl
  have g1 : (stepO (s, o) list[i] i).1 = stepF s list[i] := stepO_fst q1 list[i] i
  have g2 : Right (stepO (s, o) list[i] i).1 := by rw [g1]; exact stepF_right _ q1
  have g3 : (stepO (s, o) list[i] i).1.Nodup := by rw [g1]; exact stepF_nodup _ q2
  have g4 : Told (stepO (s, o) list[i] i) := stepO_told q4 _ _
  have hh := ih _ ⟨g2, g3, g4, e⟩
  cases hc : cOk list[i]
  ·have e1 : stepO (s, o) list[i] i = (s, o) := by unfold stepO; rw [hc]; rfl
   rw [e1] at hh
   simp only [Bool.false_eq_true, ↓reduceIte, up_ (show i < 4611686018427387904 by omega)]
   exact hh
  ·have e1 : stepO (s, o) list[i] i = (deriveL s list[i]).foldl (addO i) (s, o) := by unfold stepO; rw [hc]; rfl
   rw [e1] at hh
   simp only [↓reduceIte, impl_clone s (by omega), Option.bind_some]
   refine Ev.bind (impl_der s (by omega) list[i]) ?_
   refine impl_found2 list bf i (deriveL s list[i]) (deriveL_len _ _ (by omega)) (fun _ => R (passO list 0 s0)) (s, o) q1 q2 q4 ?_ ?_
   ·intro d hd
    have := telF_right q1 hc d.f0 (by rw [← derive_facts q1]; exact List.mem_map.2 ⟨d, hd, rfl⟩)
    exact this
   ·rw [up_ (show i < 4611686018427387904 by omega)]
    exact hh
 ·rintro ⟨s, o⟩ ⟨q1, q2, q4, q5⟩
  simp only at q1 q2 q4 q5
  refine Ev.succ ?_
  simp only [impl_findFacts.l1, nat_lt, Nat.lt_irrefl, ↓reduceIte]
  rw [List.drop_length] at q5
  have : (s, o) = passO list 0 s0 := q5
  rw [← this] at fin ⊢
  exact fin
theorem impl_found0 (list : List Cr) (hl : list.length ≤ 1048576) : ∀ (n : Nat) (s : List Fc × List Fo) (bf : Int), Right s.1 → s.1.Nodup → Told s → 145 ≤ n + s.1.length → bf < s.1.length →
  Ev (fun k => impl_findFacts.l0 k list s.1 s.2 bf) (iterO n list s).2 := by
 intro n
 induction n with
 | zero =>
  intro s bf h1 h2 h4 h5 h6
  have := right_len h1 h2
  omega
 | succ n ih =>
  intro s bf h1 h2 h4 h5 h6
  have hp : (passO list 0 s).1 = passF list s.1 := passO_fst list 0 h1
  have p1 : Right (passO list 0 s).1 := by rw [hp]; exact passF_right list h1
  have p2 : (passO list 0 s).1.Nodup := by rw [hp]; exact passF_nodup list h2
  have p4 := passO_told list 0 h4
  refine Ev.succ ?_
  simp only [impl_findFacts.l0, h6, ↓reduceIte]
  unfold iterO
  refine impl_found1 list hl _ s h1 h2 h4 (fun t => (if s.1.length < t.1.length then iterO n list t else t).2) ?_
  by_cases hg : s.1.length < (passO list 0 s).1.length
  ·rw [if_pos hg]
   exact ih (passO list 0 s) _ p1 p2 p4 (by omega) (by omega)
  ·rw [if_neg hg]
   refine Ev.succ ?_
   simp only [impl_findFacts.l0, nat_lt, hg, ↓reduceIte]
   exact Ev.now _
theorem impl_found (list : List Cr) (hl : list.length ≤ 1048576) : Ev (fun k => impl_findFacts.f k list) (foundF list) := by
 unfold impl_findFacts.f foundF
 exact impl_found0 list hl 145 ([], []) (-1) right_nil List.nodup_nil (by unfold Told; rfl) (by simp) (by simp)
theorem impl_Facts (list : List Cr) (hl : list.length ≤ 1048576) : Ev (fun k => impl_FactsOf.f k list) (factsF list) := by
 unfold impl_FactsOf.f
 refine Ev.bind (impl_found list hl) ?_
 have hn : (foundF list).length ≤ 144 := by
  have := congrArg List.length (foundF_facts list)
  rw [List.length_map] at this
  have := factsF_len list
  omega
 rw [← foundF_facts list]
 have key := Ev.up (foundF list).length (fun i (s : List Fc) k => impl_FactsOf.l0 k s (foundF list) (foundF list).length i) (fun i s => s ++ ((foundF list).drop i).map (·.f0)) (fun i s => s.length ≤ i) ?_ ?_ 0 [] (Nat.zero_le _) (by simp)
 ·exact key
 ·intro i s hi hs ih
  refine Ev.succ ?_
  simp only [impl_FactsOf.l0, nat_lt, nat_0, hi, ↓reduceIte, rd_T75, getD_ _ hi, getDn_ _ hi, up_ (show i < 4611686018427387904 by omega), show s.length < 5864062014805 by omega]
  rw [List.drop_eq_getElem_cons hi, List.map_cons]
  have h2 := ih (s ++ [(foundF list)[i].f0]) (by simp; omega)
  rw [List.append_assoc] at h2
  exact h2
 ·intro s _
  refine Ev.succ ?_
  simp only [impl_FactsOf.l0, nat_lt, Nat.lt_irrefl, ↓reduceIte, List.drop_length, List.map_nil, List.append_nil]
  exact Ev.now s
end Q
end Go.Proofs.Ytljhfomkakhflaa
