/-
The program's least proof, up to what it keeps: the facts by their sizes, each with the step by which it has its own; up to the one that is asked for.
-/
import Derived.Test.YtljhfomkakhflaaKEQ42
namespace Go.Proofs.Ytljhfomkakhflaa
open Go.RowKit Go.Proofs.YtljhfomkakhflaaW.PrintWords Go.Proofs.YtljhfomkakhflaaW.PrintLast Go.Proofs.YtljhfomkakhflaaW.PrintMore Go.Proofs.Ytljhfomkakhflaa.PA
set_option linter.unusedVariables false
set_option linter.unusedSimpArgs false
namespace Q
structure Ord (F : List Fc) (r o : List Int) : Prop where
 len : o.length = F.length
 at_ : ∀ t, At F t → At F (rd o t)
 all : ∀ a, At F a → ∃ t, At F t ∧ rd o t = a
 one : ∀ s t, At F s → At F t → rd o s = rd o t → s = t
 up : ∀ s t, 0 ≤ s → s < t → t < (F.length : Int) → rd r (rd o s) ≤ rd r (rd o t)
def rg (n : Nat) : List Int := (List.range n).map fun (i : Nat) => (i : Int)
theorem rg_len (n : Nat) : (rg n).length = n := by simp [rg]
theorem gt_rg {n t : Nat} (h : t < n) : gt (rg n) t = (t : Int) := by rw [gt_at (by simpa [rg] using h)]; simp [rg]
theorem rg_succ (n : Nat) : rg n ++ [(n : Int)] = rg (n + 1) := by simp [rg, List.range_succ]
theorem rg_nodup (n : Nat) : (rg n).Nodup := by
 rw [nod_iff]
 intro i j hi hj e
 rw [rg_len] at hi hj
 rw [gt_rg hi, gt_rg hj] at e
 omega
theorem ord_of {list : List Cr} {F : List Fc} {r : List Int} (h : Szs list F r) (hF : F.length ≤ 144) : ∃ o, Ev (fun k => slices_SortStableFunc_int_int.f k (rg F.length) (fnCmp r)) o ∧ Ord F r o := by
 have hc : Cm (fnCmp r) (rd r) (rg F.length) := by
  refine ⟨by rw [rg_len]; omega, fun s t hs ht => ?_⟩
  rw [rg_len] at hs ht
  rw [gt_rg hs, gt_rg ht]
  have p1 := h.pos (i := (s : Int)) ⟨by omega, by omega⟩
  have p2 := h.pos (i := (t : Int)) ⟨by omega, by omega⟩
  have hl := h.good.1
  unfold fnCmp
  rw [if_pos (by omega), if_pos (by omega), if_pos (by omega), if_pos (by omega), w64 (by omega) (by omega)]
 obtain ⟨o, e, hs, hu⟩ := sorted_by (rd r) (fnCmp r) (rg F.length) hc
 have hlen : o.length = F.length := by rw [hs.len, rg_len]
 rw [rg_len] at hs hu
 have hnod := hs.nod (rg_nodup _)
 have hat : ∀ t : Nat, t < F.length → ∃ s : Nat, s < F.length ∧ gt o t = (s : Int) := by
  intro t ht
  obtain ⟨s, _, s2, e⟩ := hs.inn t (Nat.zero_le _) ht
  exact ⟨s, s2, e.trans (gt_rg s2)⟩
 refine ⟨o, e, hlen, fun t ht => ?_, fun a ha => ?_, fun s t h1 h2 e => ?_, fun s t h1 h2 h3 => ?_⟩
 ·obtain ⟨n, rfl⟩ := Int.eq_ofNat_of_zero_le ht.1
  obtain ⟨s, s1, s2⟩ := hat n (by have := ht.2; omega)
  show At F (gt o n)
  rw [s2]
  exact ⟨by omega, by omega⟩
 ·obtain ⟨n, rfl⟩ := Int.eq_ofNat_of_zero_le ha.1
  have hn : n < F.length := by have := ha.2; omega
  by_cases hm : (n : Int) ∈ o
  ·obtain ⟨t, ht, e⟩ := List.mem_iff_getElem.1 hm
   exact ⟨(t : Int), ⟨by omega, by omega⟩, by rw [rdI ht]; exact e⟩
  ·exfalso
   have := nodup_le ((n : Int) :: o) (rg F.length) (List.nodup_cons.2 ⟨hm, hnod⟩) fun x hx => by
    rcases List.mem_cons.1 hx with rfl | hx
    ·simp only [rg, List.mem_map, List.mem_range]; exact ⟨n, hn, rfl⟩
    ·obtain ⟨t, ht, e⟩ := List.mem_iff_getElem.1 hx
     obtain ⟨s, s1, s2⟩ := hat t (by omega)
     rw [gt_at ht, e] at s2
     simp only [rg, List.mem_map, List.mem_range]; exact ⟨s, s1, s2.symm⟩
   rw [rg_len, List.length_cons] at this
   omega
 ·obtain ⟨n, rfl⟩ := Int.eq_ofNat_of_zero_le h1.1
  obtain ⟨m, rfl⟩ := Int.eq_ofNat_of_zero_le h2.1
  have := (nod_iff o).1 hnod n m (by have := h1.2; omega) (by have := h2.2; omega) e
  omega
 ·obtain ⟨n, rfl⟩ := Int.eq_ofNat_of_zero_le h1
  obtain ⟨m, rfl⟩ := Int.eq_ofNat_of_zero_le (show 0 ≤ t by omega)
  exact hu n m (Nat.zero_le _) (by omega) (by omega)
structure StepAt (list : List Cr) (F : List Fc) (r o : List Int) (t : Int) (s : St) : Prop where
 word : s.f0 ∈ list
 ok : cOk s.f0 = true
 fact : s.f1 = fc F (rd o t)
 back : ∀ k ∈ s.f2, 0 ≤ k ∧ k < t
 few : s.f2.length ≤ 2
 way : Way F s.f0 s.f1 (s.f2.map (rd o))
 size : rd r (rd o t) = 1 + (s.f2.map fun k => rd r (rd o k)).sum
structure Ahead (list : List Cr) (F : List Fc) (r o : List Int) (goal : Int) (j : Nat) (P : List Int) (S : List St) : Prop where
 slen : S.length = j
 plen : P.length = F.length
 pl : ∀ t : Nat, t < j → rd P (rd o t) = (t : Int)
 st : ∀ t : Nat, t < j → StepAt list F r o t (rdS S t)
 no : ∀ t : Nat, t < j → rd o t ≠ goal
structure Upto (list : List Cr) (F : List Fc) (r o : List Int) (goal : Int) (S : List St) : Prop where
 pos : 0 < S.length
 len : S.length ≤ F.length
 st : ∀ t : Nat, t < S.length → StepAt list F r o t (rdS S t)
 last : rd o ((S.length - 1 : Nat) : Int) = goal
theorem proof_l2 (list : List Cr) (F : List Fc) (r o : List Int) (goal : Int) (P : List Int) (S : List St) (c : Cr) (f : Fc) (fr : List Int) (i x52 x53 : Int) (hfr : ∀ a ∈ fr, 0 ≤ a ∧ a < (P.length : Int)) (hfl : fr.length ≤ 2) (hi : 0 ≤ i ∧ i < (P.length : Int)) (hS : S.length ≤ 1000) (R : List St × Bool → Prop)
  (cont : ∃ t, Ev (fun k => if i = goal then ((impl_kept.f k (S ++ [⟨c, f, fr.map (rd P)⟩])).bind fun t541 => (some (t541, true))) else (impl_LeastProof.l1 k list F goal (P.set i.toNat (S.length : Int)) (S ++ [⟨c, f, fr.map (rd P)⟩]) o x52 (wrap64 (x53 + 1)) r)) t ∧ R t) :
  ∀ (n m : Nat), fr.length - m = n → m ≤ fr.length → ∃ t, Ev (fun k => impl_LeastProof.l2 k list F goal P S i ((fr.take m).map (rd P)) o x52 x53 fr fr.length m r c.f0 c.f1.f0 c.f1.f1 c.f2 c.f3.f0 c.f3.f1 c.f4.f0 c.f4.f1 c.f5 c.f6 f.f0.f0 f.f0.f1 f.f1 fr) t ∧ R t := by
 intro n
 induction n with
 | zero =>
  intro m hn hm
  obtain rfl : m = fr.length := by omega
  refine Ev.exsucc ?_
  simp only [impl_LeastProof.l2, Int.lt_irrefl, ↓reduceIte, List.take_length, hi.1, hi.2, show S.length < 1099511627776 by omega, Option.bind_some]
  exact cont
 | succ n ih =>
  intro m hn hm
  have hml : m < fr.length := by omega
  have ha := hfr fr[m] (List.getElem_mem hml)
  have hup := up_ (show m < 4611686018427387904 by omega)
  have htk : (fr.take (m + 1)).map (rd P) = (fr.take m).map (rd P) ++ [rd P fr[m]] := by rw [List.take_succ_eq_append_getElem hml, List.map_append, List.map_cons, List.map_nil]
  refine Ev.exsucc ?_
  simp only [impl_LeastProof.l2, nat_lt, nat_0, hml, ↓reduceIte, rdI hml, ha.1, ha.2, hup, show ((fr.take m).map (rd P)).length < 17592186044416 by rw [List.length_map, List.length_take]; omega, ← htk]
  exact ih (m + 1) (by omega) (by omega)
theorem proof_l1 {list : List Cr} (hl : list.length ≤ 1048576) {F : List Fc} {r o : List Int} (h : Szs list F r) (hF : F.length ≤ 144) (ho : Ord F r o) {goal : Int} (hg : At F goal) (R : List St × Bool → Prop)
  (fin : ∀ S, Upto list F r o goal S → ∃ t, Ev (fun k => (impl_kept.f k S).bind fun t541 => (some (t541, true))) t ∧ R t) :
  ∀ (n j : Nat) (P : List Int) (S : List St), F.length - j = n → j ≤ F.length → Ahead list F r o goal j P S → ∃ t, Ev (fun k => impl_LeastProof.l1 k list F goal P S o F.length j r) t ∧ R t := by
 intro n
 induction n with
 | zero =>
  intro j P S hn hj ha
  exfalso
  obtain ⟨t, ht, e⟩ := ho.all goal hg
  obtain ⟨m, rfl⟩ := Int.eq_ofNat_of_zero_le ht.1
  exact ha.no m (by have := ht.2; omega) e
 | succ n ih =>
  intro j P S hn hj ha
  have hjl : j < F.length := by omega
  have hjo : j < o.length := by rw [ho.len]; exact hjl
  have hAj : At F (j : Int) := ⟨by omega, by omega⟩
  have hi := ho.at_ _ hAj
  have hup := up_ (show j < 4611686018427387904 by omega)
  obtain ⟨c, hc, ok, fr, hw, hfa, hfl, hsz, hev⟩ := impl_least hl h hF hi
  have hlt : ∀ a ∈ fr, ∃ t : Nat, t < j ∧ rd o (t : Int) = a := by
   intro a m
   obtain ⟨t, ht, e⟩ := ho.all a (hfa a m)
   obtain ⟨t', rfl⟩ := Int.eq_ofNat_of_zero_le ht.1
   refine ⟨t', ?_, e⟩
   have hp : ∀ b ∈ fr, 1 ≤ rd r b := fun b mb => (h.pos (hfa b mb)).1
   have hs := sum_ge fr hp a m
   by_cases g : t' < j
   ·exact g
   ·exfalso
    by_cases g2 : t' = j
    ·subst g2; rw [e] at hsz; omega
    ·have := ho.up (j : Int) (t' : Int) (by omega) (by omega) ht.2
     rw [e] at this; omega
  have hback : (fr.map (rd P)).map (rd o) = fr := by
   rw [List.map_map]
   refine (List.map_congr_left fun a m => ?_).trans (List.map_id _)
   obtain ⟨t, t1, t2⟩ := hlt a m
   show rd o (rd P a) = a
   rw [← t2, ha.pl t t1]
  have hst : StepAt list F r o (j : Int) ⟨c, fc F (rd o j), fr.map (rd P)⟩ := by
   refine ⟨hc, ok, rfl, fun k hk => ?_, by simpa using hfl, by show Way F c _ ((fr.map (rd P)).map (rd o)); rw [hback]; exact hw, ?_⟩
   ·obtain ⟨a, m, rfl⟩ := List.mem_map.1 hk
    obtain ⟨t, t1, t2⟩ := hlt a m
    rw [← t2, ha.pl t t1]
    omega
   ·show _ = 1 + ((fr.map (rd P)).map fun k => rd r (rd o k)).sum
    rw [show (fun k => rd r (rd o k)) = (rd r ∘ rd o) from rfl, ← List.map_map, hback]
    exact hsz
  have hS1 : ∀ t : Nat, t < j → rdS (S ++ [⟨c, fc F (rd o j), fr.map (rd P)⟩]) t = rdS S t := fun t ht => rdS_pre _ (by omega) (by rw [ha.slen]; omega)
  have hS2 : rdS (S ++ [⟨c, fc F (rd o j), fr.map (rd P)⟩]) (j : Int) = ⟨c, fc F (rd o j), fr.map (rd P)⟩ := by
   rw [rdS_ (by rw [List.length_append, ha.slen]; simp)]
   simp [← ha.slen]
  have hall : ∀ t : Nat, t < j + 1 → StepAt list F r o t (rdS (S ++ [⟨c, fc F (rd o j), fr.map (rd P)⟩]) t) := by
   intro t ht
   by_cases e : t = j
   ·subst e; rw [hS2]; exact hst
   ·rw [hS1 t (by omega)]; exact ha.st t (by omega)
  refine Ev.exsucc ?_
  simp only [impl_LeastProof.l1, nat_lt, nat_0, hjl, hjo, ↓reduceIte]
  refine Ev.exbind hev ?_
  simp only [tell]
  refine proof_l2 list F r o goal P S c (fc F (rd o j)) fr (rd o j) F.length j (fun a m => by rw [ha.plen]; exact hfa a m) hfl (by rw [ha.plen]; exact hi) (by rw [ha.slen]; omega) R ?_ _ 0 rfl (Nat.zero_le _)
  by_cases e : rd o (j : Int) = goal
  ·simp only [e, ↓reduceIte]
   rw [e] at hall
   refine fin _ ⟨by simp, by simp [ha.slen]; omega, fun t ht => hall t (by simpa [ha.slen] using ht), by simp [ha.slen]; exact e⟩
  ·simp only [e, ↓reduceIte, hup]
   obtain ⟨i', hi'⟩ := Int.eq_ofNat_of_zero_le hi.1
   refine ih (j + 1) _ _ (by omega) (by omega) ⟨by simp [ha.slen], by rw [List.length_set]; exact ha.plen, fun t ht => ?_, hall, fun t ht => ?_⟩
   ·rw [hi', Int.toNat_natCast]
    have hil : i' < P.length := by rw [ha.plen]; have := hi.2; omega
    by_cases e2 : t = j
    ·subst e2
     rw [hi', rd_setI hil, if_pos rfl, ha.slen]
    ·have ht2 : At F (t : Int) := ⟨by omega, by omega⟩
     obtain ⟨u, hu⟩ := Int.eq_ofNat_of_zero_le (ho.at_ _ ht2).1
     rw [hu, rd_setI hil, if_neg fun e3 => e2 (by have := ho.one _ _ ht2 hAj (by rw [hu, hi', e3]); omega), ← hu]
     exact ha.pl t (by omega)
   ·by_cases e2 : t = j
    ·subst e2; exact e
    ·exact ha.no t (by omega)
theorem proof_l0 {list : List Cr} (hl : list.length ≤ 1048576) {F : List Fc} {r : List Int} (h : Szs list F r) (hF : F.length ≤ 144) {goal : Int} (hg : At F goal) (R : List St × Bool → Prop)
  (fin : ∀ o S, Ord F r o → Upto list F r o goal S → ∃ t, Ev (fun k => (impl_kept.f k S).bind fun t541 => (some (t541, true))) t ∧ R t) :
  ∀ (n m : Nat), F.length - m = n → m ≤ F.length → ∃ t, Ev (fun k => impl_LeastProof.l0 k list F goal (rg m) F.length m r) t ∧ R t := by
 intro n
 induction n with
 | zero =>
  intro m hn hm
  obtain rfl : m = F.length := by omega
  obtain ⟨o, eo, ho⟩ := ord_of h hF
  refine Ev.exsucc ?_
  simp only [impl_LeastProof.l0, Int.lt_irrefl, ↓reduceIte]
  refine Ev.exbind eo ?_
  simp only [nat_0, ↓reduceIte, Int.toNat_natCast, show F.length ≤ 35184372088832 by omega, rg_len]
  exact proof_l1 hl h hF ho hg R (fun S hS => fin o S ho hS) _ 0 _ _ rfl (Nat.zero_le _) ⟨rfl, by simp, fun t ht => absurd ht (Nat.not_lt_zero _), fun t ht => absurd ht (Nat.not_lt_zero _), fun t ht => absurd ht (Nat.not_lt_zero _)⟩
 | succ n ih =>
  intro m hn hm
  refine Ev.exsucc ?_
  simp only [impl_LeastProof.l0, nat_lt, show m < F.length by omega, ↓reduceIte, show (rg m).length < 17592186044416 by rw [rg_len]; omega, rg_succ, up_ (show m < 4611686018427387904 by omega)]
  exact ih (m + 1) (by omega) (by omega)
end Q
end Go.Proofs.Ytljhfomkakhflaa
