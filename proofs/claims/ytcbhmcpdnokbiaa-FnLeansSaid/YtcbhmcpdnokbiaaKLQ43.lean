/-
The reference's steps for all facts of words: it yields them, one for each fact.
-/
import Derived.Test.YtcbhmcpdnokbiaaKLPAx16
import Derived.Test.YtcbhmcpdnokbiaaKLQ42
namespace Go.Proofs.Ytcbhmcpdnokbiaa
open Go.RowKit Go.Proofs.YtcbhmcpdnokbiaaW.PrintWords Go.Proofs.YtcbhmcpdnokbiaaW.PrintLast Go.Proofs.YtcbhmcpdnokbiaaW.PrintMore Go.Proofs.Ytcbhmcpdnokbiaa.PA
set_option linter.unusedVariables false
set_option linter.unusedSimpArgs false
namespace Q
theorem getD_F {l : List Fc} {i : Nat} (h : i < l.length) : rd_T29 l (i : Int) = l[i] := by simp only [rd_T29, getD_ _ h]
theorem getD_C {l : List Cr} {i : Nat} (h : i < l.length) : rd_T46 l (i : Int) = l[i] := by simp only [rd_T46, getD_ _ h]
theorem all_l2 (list : List Cr) (i : Nat) (hi : i < list.length) (hil : list.length ≤ 1048576) (S0 : List St) (next : List Fc) (hnext : next = stepF (S0.map (·.f1)) list[i]) (hN : next.Nodup) (hlen : next.length ≤ 144) :
  ∀ (d : Nat) (S : List St) (b : Bool), next.length - S.length = d → S.length ≤ next.length → (∃ t, S = S0 ++ t) → S.map (·.f1) = next.take S.length → GoodAll list S →
  ∃ S', S'.map (·.f1) = next ∧ GoodAll list S' ∧ ∀ R, Ev (fun k => spec_l07All.l1 k list S' next (b || decide (S.length < next.length)) ((i + 1 : Nat) : Int)) R → Ev (fun k => spec_l07All.l2 k list S b i next S0 (S.length : Int)) R := by
 intro d
 induction d with
 | zero =>
  intro S b hd hle _ hmap hgood
  have he : S.length = next.length := by omega
  refine ⟨S, by rw [hmap, he, List.take_length], hgood, fun R hR => Ev.succ ?_⟩
  simp only [spec_l07All.l2, nat_lt, he, Nat.lt_irrefl, ↓reduceIte, up_ (show i < 4611686018427387904 by omega)]
  simpa only [he, Nat.lt_irrefl, decide_false, Bool.or_false] using hR
 | succ d ih =>
  intro S b hd hle hpre hmap hgood
  have hlt : S.length < next.length := by omega
  obtain ⟨t, ht⟩ := hpre
  obtain ⟨tf, htf⟩ := stepF_pre (S0.map (·.f1)) list[i]
  have hge : S0.length ≤ S.length := by rw [ht, List.length_append]; omega
  have hmem : next[S.length] ∈ tf := by
   have e : next = S0.map (·.f1) ++ tf := by rw [hnext, htf]
   have h1 : (S0.map (·.f1)).length ≤ S.length := by rw [List.length_map]; exact hge
   have h2 : next[S.length] = (S0.map (·.f1) ++ tf)[S.length]'(by rw [← e]; exact hlt) := by simp only [e]
   rw [h2, List.getElem_append_right h1]
   exact List.getElem_mem _
  obtain ⟨hnew, ok⟩ := step_new htf (by rw [← hnext]; exact hN) hmem
  obtain ⟨hj, hb⟩ := from_just hnew ok
  have hS1 : GoodAll list (S ++ [⟨list[i], next[S.length], fromS S0 list[i] next[S.length].f1⟩]) := by
   refine hgood.snoc ⟨List.getElem_mem hi, ok, fun j h => ?_, ?_⟩
   ·have := hb j h; omega
   ·have : ((fromS S0 list[i] next[S.length].f1).map fun j => (rdS S j).f1) = (fromS S0 list[i] next[S.length].f1).map fun j => (rdS S0 j).f1 := by
     apply List.map_congr_left
     intro j h
     have := hb j h
     rw [ht, rdS_pre t (by omega) (by omega)]
    show Just list[i] next[S.length] ((fromS S0 list[i] next[S.length].f1).map fun j => (rdS S j).f1)
    rw [this]
    exact hj
  obtain ⟨S', e1, e2, e3⟩ := ih (S ++ [⟨list[i], next[S.length], fromS S0 list[i] next[S.length].f1⟩]) true (by rw [List.length_append, List.length_singleton]; omega) (by rw [List.length_append, List.length_singleton]; omega) ⟨t ++ [⟨list[i], next[S.length], fromS S0 list[i] next[S.length].f1⟩], by rw [← List.append_assoc, ← ht]⟩
   (by rw [List.map_append, hmap, List.length_append, List.length_singleton, List.take_succ_eq_append_getElem hlt]; rfl) hS1
  refine ⟨S', e1, e2, fun R hR => Ev.succ ?_⟩
  have hS0 : S0.length ≤ 1048576 := by omega
  simp only [spec_l07All.l2, nat_lt, nat_0, hlt, hi, ↓reduceIte, getD_C hi, getD_F hlt, up_ (show S.length < 4611686018427387904 by omega)]
  refine Ev.bind (l7_from S0 list[i] next[S.length].f1 hS0) ?_
  simp only [hge, ↓reduceIte, show S.length < 1099511627776 by omega]
  have h3 := e3 R (by simpa only [hlt, decide_true, Bool.or_true, Bool.true_or] using hR)
  have hl1 : ((S ++ [(⟨list[i], next[S.length], fromS S0 list[i] next[S.length].f1⟩ : St)]).length : Int) = ((S.length + 1 : Nat) : Int) := by rw [List.length_append, List.length_singleton]
  rw [hl1] at h3
  exact h3
theorem map_len {S : List St} {l : List Fc} (h : S.map (·.f1) = l) : S.length = l.length := by rw [← h, List.length_map]
theorem all_l1 (list : List Cr) (hil : list.length ≤ 1048576) : ∀ (d i : Nat) (S : List St) (b : Bool), list.length - i = d → i ≤ list.length → GoodAll list S → Right (S.map (·.f1)) → (S.map (·.f1)).Nodup →
  ∃ S', S'.map (·.f1) = passF (list.drop i) (S.map (·.f1)) ∧ GoodAll list S' ∧ S.length ≤ S'.length ∧ ∀ R, Ev (fun k => spec_l07All.l0 k list S' (S'.map (·.f1)) (b || decide (S.length < S'.length))) R → Ev (fun k => spec_l07All.l1 k list S (S.map (·.f1)) b (i : Int)) R := by
 intro d
 induction d with
 | zero =>
  intro i S b hd hi hgood _ _
  have he : i = list.length := by omega
  subst he
  refine ⟨S, by rw [List.drop_length]; rfl, hgood, Nat.le_refl _, fun R hR => Ev.succ ?_⟩
  simp only [spec_l07All.l1, nat_lt, Nat.lt_irrefl, ↓reduceIte]
  simpa only [Nat.lt_irrefl, decide_false, Bool.or_false] using hR
 | succ d ih =>
  intro i S b hd hi hgood hr hn
  have hlt : i < list.length := by omega
  have hr1 := stepF_right list[i] hr
  have hn1 := stepF_nodup list[i] hn
  have h144 := right_len hr1 hn1
  have h1440 := right_len hr hn
  have hle := stepF_len (S.map (·.f1)) list[i]
  rw [List.length_map] at hle h1440
  obtain ⟨tf, htf⟩ := stepF_pre (S.map (·.f1)) list[i]
  obtain ⟨S1, a1, a2, a3⟩ := all_l2 list i hlt hil S _ rfl hn1 h144 _ S b rfl hle ⟨[], by simp⟩ (by rw [htf, List.take_append_of_le_length (by rw [List.length_map]; exact Nat.le_refl _), ← List.length_map (f := fun x : St => x.f1), List.take_length]) hgood
  have hl1 := map_len a1
  obtain ⟨S', b1, b2, b3, b4⟩ := ih (i + 1) S1 (b || decide (S.length < (stepF (S.map (·.f1)) list[i]).length)) (by omega) (by omega) a2 (by rw [a1]; exact hr1) (by rw [a1]; exact hn1)
  refine ⟨S', ?_, b2, by omega, fun R hR => Ev.succ ?_⟩
  ·rw [b1, a1, List.drop_eq_getElem_cons hlt]
   rfl
  ·simp only [spec_l07All.l1, nat_lt, nat_0, hlt, ↓reduceIte, getD_C hlt]
   refine Ev.bind (spec_Fol (S.map (·.f1)) list[i] (by rw [List.length_map]; omega)) ?_
   have h2 := a3 R ?_
   ·simpa only [List.length_map] using h2
   ·have h3 := b4 R ?_
    ·rw [a1] at h3
     exact h3
    ·have hb : ((b || decide (S.length < (stepF (S.map (·.f1)) list[i]).length)) || decide (S1.length < S'.length)) = (b || decide (S.length < S'.length)) := by
      cases b
      ·simp only [Bool.false_or, ← Bool.decide_or]
       congr 1
       apply propext
       omega
      ·rfl
     rw [hb]
     exact hR
theorem all_l0 (list : List Cr) (hil : list.length ≤ 1048576) : ∀ (n : Nat) (S : List St), 145 ≤ n + S.length → GoodAll list S → Right (S.map (·.f1)) → (S.map (·.f1)).Nodup →
  ∃ S', S'.map (·.f1) = iterF n list (S.map (·.f1)) ∧ GoodAll list S' ∧ Ev (fun k => spec_l07All.l0 k list S (S.map (·.f1)) true) S' := by
 intro n
 induction n with
 | zero =>
  intro S h3 _ h1 h2
  have := right_len h1 h2
  rw [List.length_map] at this
  omega
 | succ n ih =>
  intro S h3 hg h1 h2
  obtain ⟨S1, a1, a2, a3, a4⟩ := all_l1 list hil list.length 0 S false rfl (Nat.zero_le _) hg h1 h2
  rw [List.drop_zero] at a1
  have hl1 := map_len a1
  unfold iterF
  by_cases hlt : S.length < S1.length
  ·have hlt' : (S.map (·.f1)).length < (passF list (S.map (·.f1))).length := by rw [List.length_map, ← hl1]; exact hlt
   rw [if_pos hlt']
   obtain ⟨S', b1, b2, b3⟩ := ih S1 (by omega) a2 (by rw [a1]; exact passF_right list h1) (by rw [a1]; exact passF_nodup list h2)
   refine ⟨S', by rw [b1, a1], b2, Ev.succ ?_⟩
   simp only [spec_l07All.l0, ↓reduceIte]
   refine a4 S' ?_
   simpa only [hlt, decide_true, Bool.or_true] using b3
  ·have hlt' : ¬ (S.map (·.f1)).length < (passF list (S.map (·.f1))).length := by rw [List.length_map, ← hl1]; exact hlt
   rw [if_neg hlt']
   refine ⟨S1, a1, a2, Ev.succ ?_⟩
   simp only [spec_l07All.l0, ↓reduceIte]
   refine a4 S1 ?_
   simp only [hlt, decide_false, Bool.or_false]
   refine Ev.succ ?_
   simp only [spec_l07All.l0, Bool.false_eq_true, ↓reduceIte]
   exact Ev.now _
theorem l7_All (list : List Cr) (hil : list.length ≤ 1048576) : ∃ all : List St, all.map (·.f1) = factsF list ∧ GoodAll list all ∧ Ev (fun k => spec_l07All.f k list) all := by
 obtain ⟨S, h1, h2, h3⟩ := all_l0 list hil 145 [] (by simp) (GoodAll.nil list) right_nil List.nodup_nil
 exact ⟨S, h1, h2, by unfold spec_l07All.f; exact h3⟩
end Q
end Go.Proofs.Ytcbhmcpdnokbiaa
