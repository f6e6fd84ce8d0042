/-
The program's least sizes: they come to sizes that nothing betters.
-/
import Derived.Test.YtljhfomkakhflaaKEPAx10
import Derived.Test.YtljhfomkakhflaaKEQ30
namespace Go.Proofs.Ytljhfomkakhflaa
open Go.RowKit Go.Proofs.YtljhfomkakhflaaW.PrintWords Go.Proofs.YtljhfomkakhflaaW.PrintLast Go.Proofs.YtljhfomkakhflaaW.PrintMore Go.Proofs.Ytljhfomkakhflaa.PA
set_option linter.unusedVariables false
set_option linter.unusedSimpArgs false
namespace Q
theorem impl_size (s : List Int) (a b c : Int) (fr : List Int) (hl : fr.length ≤ 2) (hp : ∀ x ∈ fr, 0 ≤ x ∧ x < (s.length : Int)) (hr : ∀ x ∈ fr, 0 ≤ rd s x ∧ rd s x ≤ 1000001) : Ev (fun k => impl_sizeBy.f k s a b c fr) (szB s fr 1) := by
 unfold impl_sizeBy.f
 have key := Ev.up fr.length (fun i (n : Int) k => impl_sizeBy.l0 k s n fr fr.length i) (fun i n => szB s (fr.drop i) n) (fun i n => 0 ≤ n ∧ n ≤ 1 + 1000001 * (i : Int)) ?_ ?_ 0 1 (Nat.zero_le _) (by simp)
 ·exact key
 ·intro i n hi hn ih
  obtain ⟨p0, p1⟩ := hp fr[i] (List.getElem_mem hi)
  obtain ⟨r0, r1⟩ := hr fr[i] (List.getElem_mem hi)
  refine Ev.succ ?_
  simp only [impl_sizeBy.l0, nat_lt, nat_0, hi, ↓reduceIte, rdI hi, p0, p1, up_ (show i < 4611686018427387904 by omega)]
  rw [List.drop_eq_getElem_cons hi]
  unfold szB
  by_cases hb : rd s fr[i] > 1000000
  ·simp only [hb, ↓reduceIte]
   exact Ev.now _
  ·simp only [hb, ↓reduceIte]
   rw [w64 (by omega) (by omega)]
   exact ih _ ⟨by omega, by omega⟩
 ·intro n _
  refine Ev.succ ?_
  simp only [impl_sizeBy.l0, nat_lt, Nat.lt_irrefl, ↓reduceIte, List.drop_length]
  exact Ev.now _
theorem sum_set : ∀ (l : List Int) (i : Nat) (h : i < l.length) (v : Int), (l.set i v).sum = l.sum - l[i] + v := by
 intro l
 induction l with
 | nil => intro i h; simp at h
 | cons x xs ih =>
  intro i h v
  cases i with
  | zero =>
   rw [List.set_cons_zero, List.sum_cons, List.sum_cons]
   show v + xs.sum = x + xs.sum - x + v
   omega
  | succ i =>
   have h' : i < xs.length := by simpa using h
   rw [List.set_cons_succ, List.sum_cons, List.sum_cons, ih i h' v, List.getElem_cons_succ]
   omega
theorem sum_pos : ∀ l : List Int, (∀ x ∈ l, 0 ≤ x) → 0 ≤ l.sum := by
 intro l
 induction l with
 | nil => intro _; simp
 | cons x xs ih =>
  intro h
  have h1 := h x (List.mem_cons_self ..)
  have h2 := ih (fun y hy => h y (List.mem_cons_of_mem _ hy))
  rw [List.sum_cons]
  omega
theorem good_sum {list : List Cr} {F : List Fc} {s : List Int} (h : GoodS list F s) : 0 ≤ s.sum := by
 refine sum_pos s (fun x hx => ?_)
 obtain ⟨i, hi, rfl⟩ := List.getElem_of_mem hx
 have := good_range h (a := (i : Int)) (by omega) (by have := h.1; omega)
 rw [rdI hi] at this
 omega
theorem rd_setI {s : List Int} {i : Nat} (hi : i < s.length) (v : Int) (j : Nat) : rd (s.set i v) (j : Int) = if j = i then v else rd s (j : Int) := by
 unfold rd
 simp only [Int.toNat_natCast, List.getD_eq_getElem?_getD, List.getElem?_set]
 by_cases h : i = j
 ·subst h
  simp [hi]
 ·rw [if_neg h, if_neg (fun h' => h h'.symm)]
theorem good_set {list : List Cr} {F : List Fc} {s : List Int} (h : GoodS list F s) {i : Nat} (hi : i < F.length) {v : Int} (hv : Ach list F i v) : GoodS list F (s.set i v) := by
 refine ⟨by rw [List.length_set]; exact h.1, fun j hj => ?_⟩
 rw [rd_setI (by rw [h.1]; exact hi)]
 by_cases e : j = i
 ·subst e
  rw [if_pos rfl]
  exact .inr hv
 ·rw [if_neg e]
  exact h.2 j hj
theorem ach_sz {list : List Cr} {F : List Fc} (hR : Right F) (hn : F.Nodup) {s : List Int} (h : GoodS list F s) {c : Cr} (hc : c ∈ list) (ok : cOk c = true) {i : Nat} (hi : i < F.length) {fr : List Int} (hw : Way F c (rd_T28 F i) fr) (hlt : szB s fr 1 < 1000001) : Ach list F i (szB s fr 1) := by
 rcases szB_two (s := s) fr with ⟨h1, _⟩ | ⟨h1, h2⟩
 ·omega
 ·rw [h2]
  refine Ach.mk i c hc ok ⟨_, fr⟩ hw (by omega) (by omega) rfl (rd s) (fun a ha => ?_)
  have h3 := (way_at hR hn ok hw).2 a ha
  obtain ⟨j, rfl⟩ := Int.eq_ofNat_of_zero_le h3.1
  rcases h.2 j (by omega) with h4 | h4
  ·have := h1 _ ha; omega
  ·exact h4
theorem impl_pass (list : List Cr) (hl : list.length ≤ 1048576) (F : List Fc) (hR : Right F) (hnd : F.Nodup) (hF : F.length ≤ 144) (s0 : List Int) (hs0 : GoodS list F s0)
  (hnext : ∀ s, GoodS list F s → s.sum < s0.sum → ∃ r, Ev (fun k => impl_costs.l0 k list F s true) r ∧ (GoodS list F r ∧ FixedS list F r)) :
  ∃ r, Ev (fun k => impl_costs.l1 k list F s0 false list list.length 0) r ∧ (GoodS list F r ∧ FixedS list F r) := by
 refine Ev.upE list.length (fun m (t : List Int × Bool) k => impl_costs.l1 k list F t.1 t.2 list list.length m) (fun r => GoodS list F r ∧ FixedS list F r)
  (fun m t => GoodS list F t.1 ∧ (t.2 = false → t.1 = s0 ∧ ∀ c ∈ list.take m, cOk c = true → ∀ d ∈ deriveL F c, Sat F s0 d) ∧ (t.2 = true → t.1.sum < s0.sum)) ?_ ?_ 0 (s0, false) (Nat.zero_le _) ⟨hs0, fun _ => ⟨rfl, fun c hc => by simp at hc⟩, fun h => by simp at h⟩
 ·rintro m ⟨s, b⟩ hm ⟨hg, hb0, hb1⟩ ih
  simp only at hg hb0 hb1
  obtain ⟨c, hc⟩ : ∃ c, list[m] = c := ⟨_, rfl⟩
  have hcl : c ∈ list := hc ▸ List.getElem_mem hm
  have htake : list.take (m + 1) = list.take m ++ [c] := by rw [List.take_succ_eq_append_getElem hm, hc]
  have hup := up_ (show m < 4611686018427387904 by omega)
  refine Ev.exsucc ?_
  simp only [impl_costs.l1, nat_lt, nat_0, hm, ↓reduceIte, rd_T35, getD_ _ hm, getDn_ _ hm, hc, hup]
  refine Ev.exbind (impl_CredOk _ _ _ _ _ _ _ _ _ _) ?_
  change ∃ r, Ev (fun k => if cOk c = true then _ else _) r ∧ _
  cases ok : cOk c
  ·simp only [Bool.false_eq_true, ↓reduceIte]
   refine ih (s, b) ⟨hg, fun h => ?_, hb1⟩
   obtain ⟨e1, e2⟩ := hb0 h
   refine ⟨e1, fun c' hc' ok' => ?_⟩
   rw [htake, List.mem_append, List.mem_singleton] at hc'
   rcases hc' with hc' | rfl
   ·exact e2 c' hc' ok'
   ·rw [ok] at ok'; cases ok'
  ·simp only [↓reduceIte]
   refine Ev.exbind (impl_der F (by omega) c) ?_
   have hway : ∀ d ∈ deriveL F c, Way F c d.f0 d.f1 := fun d hd => hd
   obtain ⟨D, hD⟩ : ∃ D, D = deriveL F c := ⟨_, rfl⟩
   rw [← hD] at hway ⊢
   have hDl : D.length ≤ 2097152 := by
    rw [hD]
    exact Nat.le_trans (deriveL_len F c (by omega)) (by omega)
   refine Ev.upE D.length (fun j (t : List Int × Bool) k => impl_costs.l2 k list F t.1 t.2 list list.length m D D.length j) (fun r => GoodS list F r ∧ FixedS list F r)
    (fun j t => GoodS list F t.1 ∧ (t.2 = false → t.1 = s0 ∧ (∀ c ∈ list.take m, cOk c = true → ∀ d ∈ deriveL F c, Sat F s0 d) ∧ ∀ d ∈ D.take j, Sat F s0 d) ∧ (t.2 = true → t.1.sum < s0.sum)) ?_ ?_ 0 (s, b) (Nat.zero_le _) ⟨hg, fun h => ⟨(hb0 h).1, (hb0 h).2, fun d hd => by simp at hd⟩, hb1⟩
   ·rintro j ⟨s, b⟩ hj ⟨hg, hb0, hb1⟩ ih2
    simp only at hg hb0 hb1
    obtain ⟨d, hd⟩ : ∃ d, D[j] = d := ⟨_, rfl⟩
    have hdm : d ∈ D := hd ▸ List.getElem_mem hj
    have hw := hway d hdm
    have htk : D.take (j + 1) = D.take j ++ [d] := by rw [List.take_succ_eq_append_getElem hj, hd]
    obtain ⟨hfl, hfa⟩ := way_at hR hnd ok hw
    have hrg : ∀ x ∈ d.f1, 0 ≤ rd s x ∧ rd s x ≤ 1000001 := fun x hx => by have := good_range hg (hfa x hx).1 (hfa x hx).2; omega
    have hup2 := up_ (show j < 4611686018427387904 by omega)
    have more : Sat F s0 d → b = false → s = s0 → (∀ c ∈ list.take m, cOk c = true → ∀ d ∈ deriveL F c, Sat F s0 d) ∧ ∀ d' ∈ D.take (j + 1), Sat F s0 d' := by
     intro hs hbf _
     refine ⟨(hb0 hbf).2.1, fun d' hd' => ?_⟩
     rw [htk, List.mem_append, List.mem_singleton] at hd'
     rcases hd' with hd' | rfl
     ·exact (hb0 hbf).2.2 d' hd'
     ·exact hs
    refine Ev.exsucc ?_
    simp only [impl_costs.l2, nat_lt, nat_0, hj, ↓reduceIte, rd_T81, getD_ _ hj, getDn_ _ hj, hd, hup2]
    refine Ev.exbind (impl_size s _ _ _ d.f1 hfl (fun x hx => by rw [hg.1]; exact hfa x hx) hrg) ?_
    refine Ev.exbind (indexF F _ _ _ (by omega)) ?_
    change ∃ r, Ev (fun k => if atF F d.f0.f0 d.f0.f1 ≥ 0 then _ else _) r ∧ _
    have hat : idxF (isFc d.f0.f0.f0 d.f0.f0.f1 d.f0.f1) F 0 = atF F d.f0.f0 d.f0.f1 := rfl
    rw [hat]
    rcases atF_pos F d.f0.f0 d.f0.f1 with ⟨e, hnot⟩ | ⟨⟨a0, a1⟩, ea⟩
    ·simp only [e, show ¬ ((-1 : Int) ≥ 0) by omega, ↓reduceIte]
     refine ih2 (s, b) ⟨hg, fun h => ?_, hb1⟩
     refine ⟨(hb0 h).1, more (fun i hi hf => ?_) h (hb0 h).1⟩
     rw [rdF hi] at hf
     exact absurd (show (⟨d.f0.f0, d.f0.f1⟩ : Fc) ∈ F from hf ▸ List.getElem_mem hi) hnot
    ·obtain ⟨p, hp⟩ := Int.eq_ofNat_of_zero_le a0
     rw [hp] at a1 ea ⊢
     have hpF : p < F.length := by omega
     have hps : p < s.length := by rw [hg.1]; exact hpF
     have ea' : rd_T28 F (p : Int) = d.f0 := ea
     simp only [show ((p : Int) ≥ 0) by omega, show (0 : Int) ≤ (p : Int) by omega, show ((p : Int) < (s.length : Int)) by omega, ↓reduceIte, Int.toNat_natCast]
     have hrp := good_range hg (a := (p : Int)) (by omega) (by omega)
     by_cases hlt : szB s d.f1 1 < rd s (p : Int)
     ·simp only [hlt, ↓reduceIte]
      refine ih2 (s.set p (szB s d.f1 1), true) ⟨good_set hg hpF (ach_sz hR hnd hg hcl ok hpF (by rw [ea']; exact hw) (by omega)), fun h => by simp at h, fun _ => ?_⟩
      simp only
      rw [sum_set s p hps, ← rdI hps]
      cases b
      ·rw [(hb0 rfl).1] at hlt ⊢
       omega
      ·have := hb1 rfl
       omega
     ·simp only [hlt, ↓reduceIte]
      refine ih2 (s, b) ⟨hg, fun h => ?_, hb1⟩
      have e0 := (hb0 h).1
      refine ⟨e0, more (fun i hi hf => ?_) h e0⟩
      have : (i : Int) = (p : Int) := place_one hnd ⟨by omega, by omega⟩ ⟨by omega, by omega⟩ (hf.trans ea'.symm)
      rw [this, ← e0]
      omega
   ·rintro ⟨s, b⟩ ⟨hg, hb0, hb1⟩
    simp only at hg hb0 hb1
    refine Ev.exsucc ?_
    simp only [impl_costs.l2, nat_lt, Nat.lt_irrefl, ↓reduceIte, hup]
    refine ih (s, b) ⟨hg, fun h => ?_, hb1⟩
    obtain ⟨e1, e2, e3⟩ := hb0 h
    refine ⟨e1, fun c' hc' ok' => ?_⟩
    rw [htake, List.mem_append, List.mem_singleton] at hc'
    rcases hc' with hc' | rfl
    ·exact e2 c' hc' ok'
    ·rw [List.take_length, hD] at e3
     exact e3
 ·rintro ⟨s, b⟩ ⟨hg, hb0, hb1⟩
  simp only at hg hb0 hb1
  refine Ev.exsucc ?_
  simp only [impl_costs.l1, nat_lt, Nat.lt_irrefl, ↓reduceIte]
  cases b
  ·obtain ⟨rfl, e2⟩ := hb0 rfl
   refine Ev.exsucc ?_
   simp only [impl_costs.l0, Bool.false_eq_true, ↓reduceIte]
   rw [List.take_length] at e2
   exact ⟨s, Ev.now _, hg, e2⟩
  ·exact hnext s hg (hb1 rfl)
theorem impl_rounds (list : List Cr) (hl : list.length ≤ 1048576) (F : List Fc) (hR : Right F) (hnd : F.Nodup) (hF : F.length ≤ 144) : ∀ (n : Nat) (s : List Int), GoodS list F s → s.sum ≤ (n : Int) →
  ∃ r, Ev (fun k => impl_costs.l0 k list F s true) r ∧ (GoodS list F r ∧ FixedS list F r) := by
 intro n
 induction n with
 | zero =>
  intro s hg hs
  refine Ev.exsucc ?_
  simp only [impl_costs.l0, ↓reduceIte]
  refine impl_pass list hl F hR hnd hF s hg (fun s' hg' hlt => ?_)
  have := good_sum hg'
  omega
 | succ n ih =>
  intro s hg hs
  refine Ev.exsucc ?_
  simp only [impl_costs.l0, ↓reduceIte]
  exact impl_pass list hl F hR hnd hF s hg (fun s' hg' hlt => ih s' hg' (by omega))
theorem good_start (list : List Cr) (F : List Fc) : GoodS list F (List.replicate F.length 1000001) := by
 refine ⟨List.length_replicate, fun i hi => .inl ?_⟩
 rw [rdI (by rw [List.length_replicate]; exact hi)]
 simp
theorem impl_cost (list : List Cr) (hl : list.length ≤ 1048576) : ∃ r, Ev (fun k => impl_costs.f k list (factsF list)) r ∧ (GoodS list (factsF list) r ∧ FixedS list (factsF list) r) := by
 have hF := factsF_len list
 have hR := factsF_right list
 have hnd := factsF_nodup list
 unfold impl_costs.f slices_Repeat_int_int.f
 rw [if_pos ⟨rfl, by omega, by omega⟩]
 simp only [Option.bind_some, Int.toNat_natCast]
 have hg := good_start list (factsF list)
 obtain ⟨n, hn⟩ := Int.eq_ofNat_of_zero_le (good_sum hg)
 exact impl_rounds list hl _ hR hnd hF n _ hg (by show (List.replicate (factsF list).length 1000001).sum ≤ _; rw [hn]; exact Int.le_refl _)
end Q
end Go.Proofs.Ytljhfomkakhflaa
