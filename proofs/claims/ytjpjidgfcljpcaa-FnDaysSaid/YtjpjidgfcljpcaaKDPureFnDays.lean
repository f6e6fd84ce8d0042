/-
The plain law of FnDays: day by day, what a drawn list of words tells of a drawn fact.
-/
import Derived.Test.YtjpjidgfcljpcaaKDPDx14
import Derived.Test.YtjpjidgfcljpcaaKDQ37
namespace Go.Proofs.Ytjpjidgfcljpcaa
open Go.RowKit Go.Proofs.YtjpjidgfcljpcaaW.PrintWords Go.Proofs.YtjpjidgfcljpcaaW.PrintLast Go.Proofs.YtjpjidgfcljpcaaW.PrintMore Go.Proofs.Ytjpjidgfcljpcaa.PD
set_option linter.unusedVariables false
set_option linter.unusedSimpArgs false
theorem Q.days_end (list : List Q.Cr) (l1 : list.length ≤ 9) (E : List Int) (f : Q.Fc) (L : Int) (L0 : 0 ≤ L) (L9 : L ≤ 9999) (h1 : Q.holdsC list f.f0 f.f1 L = true) (h2 : Q.holdsC list f.f0 f.f1 (L + 1) = false) :
  Ev (fun k => laws_FnDays.l0 k list L E true (E.length : Int) f.f0.f0 f.f0.f1 f.f1) true := by
 refine Q.Ev.succ ?_
 have f1 := Q.factsF_len (Q.aliveC L list)
 have f2 := Q.factsF_len (Q.aliveC (L + 1) list)
 have f3 := Q.lostD_len list (L + 1)
 simp only [laws_FnDays.l0, Q.nat_lt, Nat.lt_irrefl, ↓reduceIte, Q.w64 (n := L + 1) (by omega) (by omega)]
 refine Ev.bind (Q.impl_Lost list (by omega) _) ?_
 refine Ev.bind (Q.laws_hasF _ _ _ _ (by omega)) ?_
 have m1 : (⟨⟨f.f0.f0, f.f0.f1⟩, f.f1⟩ : Q.Fc) ∈ Q.lostD list (L + 1) := Q.mem_lostD L0 L9 h1 h2
 simp only [m1, decide_true, ↓reduceIte]
 refine Ev.bind (Q.impl_Still list (by omega) _) ?_
 refine Ev.bind (Q.laws_hasF _ _ _ _ (by omega)) ?_
 have m2 : (⟨⟨f.f0.f0, f.f0.f1⟩, f.f1⟩ : Q.Fc) ∈ Q.factsF (Q.aliveC L list) := of_decide_eq_true h1
 simp only [m2, decide_true, ↓reduceIte]
 refine Ev.bind (Q.impl_Still list (by omega) _) ?_
 refine Ev.bind (Q.laws_hasF _ _ _ _ (by omega)) ?_
 have m3 : ¬ (⟨⟨f.f0.f0, f.f0.f1⟩, f.f1⟩ : Q.Fc) ∈ Q.factsF (Q.aliveC (L + 1) list) := of_decide_eq_false h2
 simp only [m3, decide_false, Bool.not_false]
 exact Ev.now _
theorem Q.days_loop (list : List Q.Cr) (l1 : list.length ≤ 9) (E : List Int) (hE : E.length ≤ 9) (hs : E.Pairwise (fun a b => a < b)) (f : Q.Fc) (L : Int) (L0 : 0 ≤ L) (L9 : L ≤ 9999) (h1 : Q.holdsC list f.f0 f.f1 L = true) (h2 : Q.holdsC list f.f0 f.f1 (L + 1) = false) (hm : L + 1 ∈ E) :
  Ev (fun k => laws_FnDays.l0 k list L E false 0 f.f0.f0 f.f0.f1 f.f1) true := by
 have key := Q.Ev.up E.length (fun i (has : Bool) k => laws_FnDays.l0 k list L E has i f.f0.f0 f.f0.f1 f.f1) (fun i has => true) (fun i has => has = true ∨ (L + 1) ∈ E.drop i) ?_ ?_ 0 false (Nat.zero_le _) (.inr (by simpa using hm))
 ·exact key
 ·intro i has hi hv ih
  refine Q.Ev.succ ?_
  have hu := Q.up_ (i := i) (by omega)
  have hw : wrap64 (L + 1) = L + 1 := Q.w64 (by omega) (by omega)
  have hnext : ∀ b : Bool, (b = true ↔ has = true ∨ E[i] = L + 1) → Ev (fun k => laws_FnDays.l0 k list L E b ((i + 1 : Nat) : Int) f.f0.f0 f.f0.f1 f.f1) true := fun b hb => ih b (by
   rcases hv with hv | hv
   ·exact .inl (hb.2 (.inl hv))
   ·rw [List.drop_eq_getElem_cons hi, List.mem_cons] at hv
    rcases hv with hv | hv
    ·exact .inl (hb.2 (.inr hv.symm))
    ·exact .inr hv)
  have hn1 : has = true → Ev (fun k => laws_FnDays.l0 k list L E true ((i + 1 : Nat) : Int) f.f0.f0 f.f0.f1 f.f1) true := fun h => hnext true (by simp [h])
  have hn2 : has = false → Ev (fun k => laws_FnDays.l0 k list L E (E[i] == L + 1) ((i + 1 : Nat) : Int) f.f0.f0 f.f0.f1 f.f1) true := fun h => hnext _ (by simp [h])
  rcases Nat.eq_zero_or_pos i with rfl | hpos
  ·cases has
   ·simp only [laws_FnDays.l0, Q.nat_lt, Q.nat_0, hi, hu, hw, ↓reduceIte, Bool.false_eq_true, Q.rdI hi, gt_iff_lt, Nat.lt_irrefl, show ¬ (((0 : Nat) : Int) > 0) by omega, show ¬ ((0 : Int) < ((0 : Nat) : Int)) by omega]
    exact hn2 rfl
   ·simp only [laws_FnDays.l0, Q.nat_lt, Q.nat_0, hi, hu, hw, ↓reduceIte, gt_iff_lt, Nat.lt_irrefl, show ¬ (((0 : Nat) : Int) > 0) by omega, show ¬ ((0 : Int) < ((0 : Nat) : Int)) by omega]
    exact hn1 rfl
  ·obtain ⟨m, rfl⟩ : ∃ m, i = m + 1 := ⟨i - 1, by omega⟩
   have hm0 : wrap64 (((m + 1 : Nat) : Int) - 1) = (m : Int) := by rw [Q.w64 (by omega) (by omega)]; omega
   have hml : m < E.length := by omega
   have hlt : E[m] < E[m + 1] := (List.pairwise_iff_getElem.1 hs) m (m + 1) hml hi (by omega)
   have hge : ¬ E[m] ≥ E[m + 1] := by omega
   have hp : ((m + 1 : Nat) : Int) > 0 := by omega
   cases has
   ·simp only [laws_FnDays.l0, Q.nat_lt, Q.nat_0, hi, hml, hu, hw, hm0, hp, hge, ↓reduceIte, Bool.false_eq_true, Q.rdI hi, Q.rdI hml]
    exact hn2 rfl
   ·simp only [laws_FnDays.l0, Q.nat_lt, Q.nat_0, hi, hml, hu, hw, hm0, hp, hge, ↓reduceIte, Q.rdI hi, Q.rdI hml]
    exact hn1 rfl
 ·intro has hv
  rcases hv with rfl | hv
  ·exact Q.days_end list l1 E f L L0 L9 h1 h2
  ·rw [List.drop_length] at hv
   cases hv
theorem Pure.FnDays : ∀ (x0 : List Int), All U8 x0 → ∃ k, laws_FnDays.f k x0 = some true := by
 intro x0 hg
 refine Q.Ev.get (g := fun k => laws_FnDays.f k x0) ?_
 unfold laws_FnDays.f laws_big.f
 simp only [Option.bind_some]
 by_cases hb : ((x0.length : Int) > 1048576)
 ·simp only [hb, decide_true, ↓reduceIte]
  exact Ev.now _
 ·simp only [hb, decide_false, Bool.false_eq_true, ↓reduceIte]
  obtain ⟨list, f, ok, e1, l1, hf, hn⟩ := Q.draw_Fact x0 (by omega)
  obtain ⟨p, e2, p1, p2⟩ := Q.draw_Places x0 (by omega)
  refine Ev.bind e1 ?_
  refine Ev.bind e2 ?_
  have hp : (0 : Int) < (p.length : Int) := by omega
  have h0 : 0 ≤ rd p 0 := by
   have e := Q.rdI (ws := p) (i := 0) (by omega)
   rw [show rd p 0 = rd p ((0 : Nat) : Int) from rfl, e]
   exact p2 _ (List.getElem_mem _)
  generalize rd p 0 = v at h0
  have t0 := Int.tmod_nonneg (60 : Int) h0
  have t1 := Int.tmod_lt_of_pos v (show (0 : Int) < 60 by omega)
  have hd : wrap64 (1 + Int.tmod v 60) = 1 + Int.tmod v 60 := Q.w64 (by omega) (by omega)
  obtain ⟨day, hday⟩ : ∃ day, 1 + Int.tmod v 60 = day := ⟨_, rfl⟩
  have d1 : 1 ≤ day := by omega
  rw [hday] at hd
  obtain ⟨L, hL, eL⟩ := Q.impl_Last list (by omega) f.f0.f0 f.f0.f1 f.f1
  simp only [hp, ↓reduceIte, hday, hd]
  refine Ev.bind eL ?_
  cases ok
  ·have hno : ∀ d, Q.holdsC list ⟨f.f0.f0, f.f0.f1⟩ f.f1 d = false := fun d => by
    cases h : Q.holdsC list ⟨f.f0.f0, f.f0.f1⟩ f.f1 d
    ·rfl
    ·have := Q.holds_fact h
     rw [hn rfl] at this
     cases this
   have hz : L = 0 := by
    rcases hL.2.1 with h | h
    ·exact h
    ·rw [hno L] at h; cases h
   simp only [hz, Bool.false_eq_true, ↓reduceIte]
   refine Ev.bind (Q.impl_Holds list (by omega) _ _ _ day) ?_
   rw [hno day]
   exact Ev.now _
  ·have hfirst : Q.holdsC list f.f0 f.f1 1 = true := Q.holds_first (hf rfl)
   have L1 : 1 ≤ L := by
    by_cases h : L < 1
    ·have := hL.2.2 1 h
     have h3 : Q.holdsC list ⟨f.f0.f0, f.f0.f1⟩ f.f1 1 = true := hfirst
     rw [h3] at this
     cases this
    ·omega
   have h1 : Q.holdsC list f.f0 f.f1 L = true := by
    rcases hL.2.1 with h | h
    ·omega
    ·exact h
   have h2 : Q.holdsC list f.f0 f.f1 (L + 1) = false := hL.2.2 (L + 1) (by omega)
   have L9 : L ≤ 9999 := by
    by_cases h : 9999 < L
    ·rw [Q.holds_9999 h] at h1; cases h1
    ·omega
   have hdl : Q.holdsC list ⟨f.f0.f0, f.f0.f1⟩ f.f1 day = decide (day ≤ L) := by
    by_cases h : day ≤ L
    ·rw [decide_eq_true h]
     exact Q.holds_mono h1 h
    ·rw [decide_eq_false h]
     exact hL.2.2 day (by omega)
   have h10 : Q.holdsC list ⟨f.f0.f0, f.f0.f1⟩ f.f1 10000 = false := Q.holds_9999 (by omega)
   simp only [↓reduceIte]
   refine Ev.bind (Q.impl_Holds list (by omega) _ _ _ day) ?_
   rw [hdl]
   simp only [bne_self_eq_false, Bool.false_eq_true, ↓reduceIte, show ¬ L < 1 by omega]
   refine Ev.bind (Q.impl_Holds list (by omega) _ _ _ 10000) ?_
   rw [h10]
   refine Q.Ev.succ ?_
   simp only [laws_FnDays.j0, Bool.false_eq_true, ↓reduceIte]
   refine Ev.bind (Q.impl_Ends list (by omega)) ?_
   exact Q.days_loop list l1 _ (Nat.le_trans (Q.endsD_len _) l1) (Q.endsD_sorted _) f L (by omega) L9 h1 h2 (Q.last_end hL h1)
end Go.Proofs.Ytjpjidgfcljpcaa
