/-
The reference's sizes are the program's; the sizes of all facts, and of one, by both.
-/
import Derived.Test.YtjpjidgfcljpcaaKCQ32
namespace Go.Proofs.Ytjpjidgfcljpcaa
open Go.RowKit Go.Proofs.YtjpjidgfcljpcaaW.PrintWords Go.Proofs.YtjpjidgfcljpcaaW.PrintLast Go.Proofs.YtjpjidgfcljpcaaW.PrintMore Go.Proofs.Ytjpjidgfcljpcaa.PC
set_option linter.unusedVariables false
set_option linter.unusedSimpArgs false
namespace Q
def SatZ (F : List Fc) (s : List Int) (c : Cr) (i : Nat) : Prop := ∀ fr, Way F c (rd_T51 F i) fr → rd (s.map encZ) i ≤ szB (s.map encZ) fr 1
theorem spec_pass2 (list : List Cr) (hl : list.length ≤ 1048576) (F : List Fc) (hR : Right F) (hnd : F.Nodup) (hF : F.length ≤ 144) (s0 : List Int)
  (hnext : ∀ s, GoodZ list F s → (s.map encZ).sum < (s0.map encZ).sum → ∃ r, Ev (fun k => spec_l19Sizes.l0 k list F s true) r ∧ (GoodZ list F r ∧ FixedS list F (r.map encZ))) (hs0 : GoodZ list F s0) :
  ∃ r, Ev (fun k => spec_l19Sizes.l1 k list F s0 false 0) r ∧ (GoodZ list F r ∧ FixedS list F (r.map encZ)) := by
 refine Ev.upE F.length (fun i (t : List Int × Bool) k => spec_l19Sizes.l1 k list F t.1 t.2 i) (fun r => GoodZ list F r ∧ FixedS list F (r.map encZ))
  (fun i t => GoodZ list F t.1 ∧ (t.2 = false → t.1 = s0 ∧ ∀ j : Nat, j < i → ∀ c ∈ list, cOk c = true → SatZ F s0 c j) ∧ (t.2 = true → (t.1.map encZ).sum < (s0.map encZ).sum)) ?_ ?_ 0 (s0, false) (Nat.zero_le _) ⟨hs0, fun _ => ⟨rfl, fun j hj => by omega⟩, fun h => by simp at h⟩
 ·rintro i ⟨s, b⟩ hi ⟨hg, hb0, hb1⟩ ih
  simp only at hg hb0 hb1
  have hup := up_ (show i < 4611686018427387904 by omega)
  refine Ev.exsucc ?_
  simp only [spec_l19Sizes.l1, nat_lt, hi, ↓reduceIte]
  refine Ev.upE list.length (fun m (t : List Int × Bool) k => spec_l19Sizes.l2 k list F t.1 t.2 i m) (fun r => GoodZ list F r ∧ FixedS list F (r.map encZ))
   (fun m t => GoodZ list F t.1 ∧ (t.2 = false → t.1 = s0 ∧ (∀ j : Nat, j < i → ∀ c ∈ list, cOk c = true → SatZ F s0 c j) ∧ ∀ c ∈ list.take m, cOk c = true → SatZ F s0 c i) ∧ (t.2 = true → (t.1.map encZ).sum < (s0.map encZ).sum)) ?_ ?_ 0 (s, b) (Nat.zero_le _) ⟨hg, fun h => ⟨(hb0 h).1, (hb0 h).2, fun c hc => by simp at hc⟩, hb1⟩
  ·rintro m ⟨s, b⟩ hm ⟨hg, hb0, hb1⟩ ih2
   simp only at hg hb0 hb1
   obtain ⟨c, hc⟩ : ∃ c, list[m] = c := ⟨_, rfl⟩
   have hcl : c ∈ list := hc ▸ List.getElem_mem hm
   have htake : list.take (m + 1) = list.take m ++ [c] := by rw [List.take_succ_eq_append_getElem hm, hc]
   have hup2 := up_ (show m < 4611686018427387904 by omega)
   have his : i < s.length := by rw [hg.1]; exact hi
   obtain ⟨v, fr, hev, hbest⟩ := spec_by hR hnd hF hg c F[i]
   have hE := goodZ_good hg
   have hEi : rd (s.map encZ) (i : Int) = encZ (rd s (i : Int)) := rd_enc (by omega) (by omega)
   have more : (cOk c = true → SatZ F s0 c i) → b = false → s = s0 ∧ (∀ j : Nat, j < i → ∀ c ∈ list, cOk c = true → SatZ F s0 c j) ∧ ∀ c ∈ list.take (m + 1), cOk c = true → SatZ F s0 c i := by
    intro hs hbf
    obtain ⟨e1, e2, e3⟩ := hb0 hbf
    refine ⟨e1, e2, fun c' hc' ok' => ?_⟩
    rw [htake, List.mem_append, List.mem_singleton] at hc'
    rcases hc' with hc' | rfl
    ·exact e3 c' hc' ok'
    ·exact hs ok'
   have keep : ¬ (v > 0 ∧ (rd s (i : Int) = 0 ∨ v < rd s (i : Int))) → b = false → (cOk c = true → SatZ F s0 c i) := by
    intro hno hbf ok fr' hw
    rw [← (hb0 hbf).1]
    have hw' : Way F c F[i] fr' := by rw [← rdF hi]; exact hw
    rcases hbest with ⟨rfl, h2⟩ | ⟨h1, h2, _, h5⟩
    ·rw [h2 fr' ⟨ok, hw'⟩]
     exact (good_range hE (a := (i : Int)) (by omega) (by omega)).2
    ·have h6 := h5 fr' ⟨ok, hw'⟩
     have h7 : ¬ rd s (i : Int) = 0 := fun h => hno ⟨by omega, .inl h⟩
     have h8 : ¬ v < rd s (i : Int) := fun h => hno ⟨by omega, .inr h⟩
     have e1 : encZ (rd s (i : Int)) = rd s (i : Int) := by unfold encZ; rw [if_neg h7]
     rw [hEi, e1]
     omega
   have turn : v > 0 → (rd s (i : Int) = 0 ∨ v < rd s (i : Int)) → GoodZ list F (s.set i v) ∧ ((s.set i v).map encZ).sum < (s.map encZ).sum := by
    intro hv hlt
    rcases hbest with ⟨rfl, _⟩ | ⟨h1, h2, ⟨fr', ⟨ok, hw⟩, he⟩, _⟩
    ·omega
    ·have hA : Ach list F i v := by
      rw [he]
      exact ach_sz hR hnd hE hcl ok hi (by rw [rdF hi]; exact hw) (by omega)
     refine ⟨⟨by rw [List.length_set]; exact hg.1, fun j hj => ?_⟩, ?_⟩
     ·rw [rd_setI his]
      by_cases e : j = i
      ·subst e
       rw [if_pos rfl]
       exact .inr hA
      ·rw [if_neg e]
       exact hg.2 j hj
     ·rw [List.map_set, sum_set _ i (by rw [List.length_map]; exact his), ← rdI (ws := s.map encZ) (by rw [List.length_map]; exact his), hEi]
      have hz : ¬ v = 0 := by omega
      have e1 : encZ v = v := by unfold encZ; rw [if_neg hz]
      rw [e1]
      have e2 : v < encZ (rd s (i : Int)) := by unfold encZ; split <;> omega
      omega
   have hset : v > 0 → (rd s (i : Int) = 0 ∨ v < rd s (i : Int)) → ∃ r, Ev (fun k => spec_l19Sizes.l2 k list F (s.set i v) true i ((m + 1 : Nat) : Int)) r ∧ (GoodZ list F r ∧ FixedS list F (r.map encZ)) := by
    intro hv hlt
    obtain ⟨g1, g2⟩ := turn hv hlt
    refine ih2 (s.set i v, true) ⟨g1, fun h => by simp at h, fun _ => ?_⟩
    simp only
    cases b
    ·rw [(hb0 rfl).1] at g2 ⊢; exact g2
    ·have := hb1 rfl; omega
   have hskip : ¬ (v > 0 ∧ (rd s (i : Int) = 0 ∨ v < rd s (i : Int))) → ∃ r, Ev (fun k => spec_l19Sizes.l2 k list F s b i ((m + 1 : Nat) : Int)) r ∧ (GoodZ list F r ∧ FixedS list F (r.map encZ)) := fun hno => ih2 (s, b) ⟨hg, fun h => more (keep hno h) h, hb1⟩
   refine Ev.exsucc ?_
   simp only [spec_l19Sizes.l2, nat_lt, nat_0, hm, hi, ↓reduceIte, rd_T56, rd_T51, getD_ _ hm, getDn_ _ hm, hc, hup2, getD_ _ hi, getDn_ _ hi]
   refine Ev.exbind hev ?_
   by_cases hv : v > 0
   ·simp only [hv, his, ↓reduceIte, Int.toNat_natCast]
    by_cases hz : rd s (i : Int) = 0
    ·simp only [hz, ↓reduceIte]
     exact hset hv (.inl hz)
    ·by_cases hlt : v < rd s (i : Int)
     ·simp only [hz, hlt, ↓reduceIte]
      exact hset hv (.inr hlt)
     ·simp only [hz, hlt, ↓reduceIte]
      exact hskip (fun h => h.2.elim hz hlt)
   ·simp only [hv, ↓reduceIte]
    exact hskip (fun h => hv h.1)
  ·rintro ⟨s, b⟩ ⟨hg, hb0, hb1⟩
   simp only at hg hb0 hb1
   refine Ev.exsucc ?_
   simp only [spec_l19Sizes.l2, nat_lt, Nat.lt_irrefl, ↓reduceIte, hup]
   refine ih (s, b) ⟨hg, fun h => ?_, hb1⟩
   obtain ⟨e1, e2, e3⟩ := hb0 h
   rw [List.take_length] at e3
   refine ⟨e1, fun j hj c hc ok => ?_⟩
   by_cases e : j = i
   ·subst e; exact e3 c hc ok
   ·exact e2 j (by omega) c hc ok
 ·rintro ⟨s, b⟩ ⟨hg, hb0, hb1⟩
  simp only at hg hb0 hb1
  refine Ev.exsucc ?_
  simp only [spec_l19Sizes.l1, nat_lt, Nat.lt_irrefl, ↓reduceIte]
  cases b
  ·obtain ⟨rfl, e2⟩ := hb0 rfl
   refine Ev.exsucc ?_
   simp only [spec_l19Sizes.l0, Bool.false_eq_true, ↓reduceIte]
   refine ⟨s, Ev.now _, hg, fun c hc ok d hd i hi hf => ?_⟩
   exact e2 i hi c hc ok d.f1 (by unfold Way; rw [hf]; exact hd)
  ·exact hnext s hg (hb1 rfl)
theorem spec_rounds (list : List Cr) (hl : list.length ≤ 1048576) (F : List Fc) (hR : Right F) (hnd : F.Nodup) (hF : F.length ≤ 144) : ∀ (n : Nat) (s : List Int), GoodZ list F s → (s.map encZ).sum ≤ (n : Int) →
  ∃ r, Ev (fun k => spec_l19Sizes.l0 k list F s true) r ∧ (GoodZ list F r ∧ FixedS list F (r.map encZ)) := by
 intro n
 induction n with
 | zero =>
  intro s hg hs
  refine Ev.exsucc ?_
  simp only [spec_l19Sizes.l0, ↓reduceIte]
  refine spec_pass2 list hl F hR hnd hF s (fun s' hg' hlt => ?_) hg
  have := good_sum (goodZ_good hg')
  omega
 | succ n ih =>
  intro s hg hs
  refine Ev.exsucc ?_
  simp only [spec_l19Sizes.l0, ↓reduceIte]
  exact spec_pass2 list hl F hR hnd hF s (fun s' hg' hlt => ih s' hg' (by omega)) hg
theorem goodZ_start (list : List Cr) (F : List Fc) : GoodZ list F (List.replicate F.length 0) := by
 refine ⟨List.length_replicate, fun i hi => .inl ?_⟩
 rw [rdI (by rw [List.length_replicate]; exact hi)]
 simp
theorem sizes_one (list : List Cr) (hl : list.length ≤ 1048576) : ∃ r, r.length = (factsF list).length ∧ Ev (fun k => impl_costs.f k list (factsF list)) r ∧ Ev (fun k => spec_l19Sizes.f k list (factsF list)) r := by
 have hF := factsF_len list
 have hR := factsF_right list
 have hnd := factsF_nodup list
 obtain ⟨r, h1, h2, h3⟩ := impl_cost list hl
 have hg := goodZ_start list (factsF list)
 obtain ⟨n, hn⟩ := Int.eq_ofNat_of_zero_le (good_sum (goodZ_good hg))
 obtain ⟨t, g1, g2, g3⟩ := spec_rounds list hl _ hR hnd hF n _ hg (by rw [hn]; exact Int.le_refl _)
 have e := fixed_one (reach_all list) h2 h3 (goodZ_good g2) g3
 have e2 : r = t := by
  rw [e]
  refine List.ext_getElem (by rw [List.length_map]) (fun i k1 k2 => ?_)
  rw [List.getElem_map]
  have hi : i < (factsF list).length := by rw [← g2.1]; exact k2
  have h4 := ach_pos (fixed_ach (goodZ_good g2) g3 (reach_all list) i hi)
  rw [rdI k1, List.getElem_map] at h4
  unfold encZ at h4 ⊢
  split
  ·rename_i hz
   rw [if_pos hz] at h4
   omega
  ·rfl
 refine ⟨r, h2.1, h1, ?_⟩
 rw [e2]
 unfold spec_l19Sizes.f
 simp only [show (0 : Int) ≤ ((factsF list).length : Int) by omega, Int.toNat_natCast, show (factsF list).length ≤ 35184372088832 by omega, ↓reduceIte]
 exact g1
theorem impl_costAt (list : List Cr) (hl : list.length ≤ 1048576) (F : List Fc) (hF : F.length ≤ 144) (r : List Int) (hr : r.length = F.length) : ∀ (C : List S53), C = (List.range F.length).map (fun i => (⟨rd_T51 F (i : Nat), rd r (i : Nat)⟩ : S53)) →
  Ev (fun k => impl_CostsOf.l0 k r [] F F.length 0) C := by
 rintro C rfl
 have key := Ev.up F.length (fun i (s : List S53) k => impl_CostsOf.l0 k r s F F.length i) (fun i s => s ++ ((List.range F.length).drop i).map (fun i => (⟨rd_T51 F (i : Nat), rd r (i : Nat)⟩ : S53))) (fun i s => s.length ≤ i) ?_ ?_ 0 [] (Nat.zero_le _) (by simp)
 ·exact key
 ·intro i s hi hs ih
  refine Ev.succ ?_
  simp only [impl_CostsOf.l0, nat_lt, nat_0, hi, hr, ↓reduceIte, up_ (show i < 4611686018427387904 by omega), show s.length < 4398046511104 by omega]
  rw [List.drop_eq_getElem_cons (by simpa using hi), List.map_cons, List.getElem_range]
  have h2 := ih (s ++ [⟨rd_T51 F (i : Nat), rd r (i : Nat)⟩]) (by simp; omega)
  rw [List.append_assoc, List.singleton_append] at h2
  exact h2
 ·intro s hs
  refine Ev.succ ?_
  simp only [impl_CostsOf.l0, nat_lt, Nat.lt_irrefl, ↓reduceIte]
  rw [show (List.range F.length).drop F.length = [] from List.drop_eq_nil_of_le (by simp), List.map_nil, List.append_nil]
  exact Ev.now _
def costL (F : List Fc) (r : List Int) : List S53 := (List.range F.length).map (fun i => (⟨rd_T51 F (i : Nat), rd r (i : Nat)⟩ : S53))
theorem costL_len (F : List Fc) (r : List Int) : (costL F r).length = F.length := by simp [costL]
theorem impl_Costs (list : List Cr) (hl : list.length ≤ 1048576) (r : List Int) (hr : r.length = (factsF list).length) (he : Ev (fun k => impl_costs.f k list (factsF list)) r) : Ev (fun k => impl_CostsOf.f k list) (costL (factsF list) r) := by
 unfold impl_CostsOf.f
 refine Ev.bind (impl_Facts list hl) ?_
 refine Ev.bind he ?_
 exact impl_costAt list hl _ (factsF_len list) r hr _ rfl
end Q
end Go.Proofs.Ytjpjidgfcljpcaa
