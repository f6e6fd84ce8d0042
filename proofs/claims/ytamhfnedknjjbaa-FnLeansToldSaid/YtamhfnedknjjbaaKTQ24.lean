/-
The reference's LeansOn, ReachRoles, NeededFor as plain functions; what is needed tells who is of a circle.
-/
import Derived.Test.YtamhfnedknjjbaaKTQ23
namespace Go.Proofs.Ytamhfnedknjjbaa
open Go.RowKit Go.Proofs.YtamhfnedknjjbaaW.PrintWords Go.Proofs.YtamhfnedknjjbaaW.PrintLast Go.Proofs.YtamhfnedknjjbaaW.PrintMore Go.Proofs.Ytamhfnedknjjbaa.PB
set_option linter.unusedVariables false
set_option linter.unusedSimpArgs false
namespace Q
theorem spec_who (list : List Cr) (F : List Fc) (hF : F.length ≤ 1048576) (i : Nat) (hi : i < 4611686018427387904) (a b : Int) (c : Cr) (hk : c.f0 = 3) (hnm : 0 ≤ c.f4.f1 ∧ c.f4.f1 ≤ 3) (R : List Rl → List Rl)
  (hn : ∀ acc, GoodR acc → Ev (fun k => spec_LeansOn.l0 k list acc F ((i + 1 : Nat) : Int) a b) (R acc)) : ∀ (d : Nat) (acc : List Rl), d ≤ 6 → GoodR acc →
  Ev (fun k => spec_LeansOn.l1 k list acc F i ((6 : Int) - (d : Int)) a b c.f0 c.f1.f0 c.f1.f1 c.f2 c.f3.f0 c.f3.f1 c.f4.f0 c.f4.f1 c.f5 c.f6) (R (whoR F c.f3 c.f4.f1 d acc)) := by
 intro d
 induction d with
 | zero =>
  intro acc _ hg
  refine Ev.succ ?_
  simp only [spec_LeansOn.l1, show ¬ ((6 : Int) - ((0 : Nat) : Int) < 6) by omega, ↓reduceIte]
  refine Ev.succ ?_
  simp only [spec_LeansOn.j4, Bool.false_eq_true, ↓reduceIte, up_ hi]
  exact hn acc hg
 | succ d ih =>
  intro acc hd hg
  refine Ev.succ ?_
  simp only [spec_LeansOn.l1, show ((6 : Int) - ((d + 1 : Nat) : Int) < 6) by omega, ↓reduceIte, hk, beq_self_eq_true]
  refine Ev.succ ?_
  have e : wrap64 ((6 : Int) - ((d + 1 : Nat) : Int) + 1) = (6 : Int) - (d : Int) := by rw [w64 (by omega) (by omega)]; omega
  simp only [spec_LeansOn.j4, ↓reduceIte, e]
  refine Ev.bind (spec_hasF F _ _ _ hF) ?_
  unfold whoR
  rw [hk] at ih
  by_cases hf : (⟨c.f3, (6 : Int) - ((d + 1 : Nat) : Int)⟩ : Fc) ∈ F
  ·rw [if_pos hf]
   have hf' : (⟨⟨c.f3.f0, c.f3.f1⟩, (6 : Int) - ((d + 1 : Nat) : Int)⟩ : Fc) ∈ F := hf
   simp only [hf', decide_true, ↓reduceIte]
   have hl := hg.len
   refine Ev.bind (spec_add acc _ _ (by omega)) ?_
   exact ih _ (by omega) (hg.add (roleOk_iff.2 (by simp only; omega)))
  ·rw [if_neg hf]
   have hf' : ¬ (⟨⟨c.f3.f0, c.f3.f1⟩, (6 : Int) - ((d + 1 : Nat) : Int)⟩ : Fc) ∈ F := hf
   simp only [hf', decide_false, Bool.false_eq_true, ↓reduceIte]
   exact ih _ (by omega) hg
theorem spec_Leans (list : List Cr) (hl : list.length ≤ 1048576) (a b : Int) : Ev (fun k => spec_LeansOn.f k list a b) (leansD list ⟨a, b⟩) := by
 unfold spec_LeansOn.f
 refine Ev.bind (spec_Facts list hl) ?_
 have hF := factsF_len list
 unfold leansD
 generalize factsF list = F at hF
 have key := Ev.up list.length (fun i (s : List Rl) k => spec_LeansOn.l0 k list s F i a b) (fun i s => (list.drop i).foldl (leanC F ⟨a, b⟩) s) (fun i s => GoodR s) ?_ ?_ 0 [] (Nat.zero_le _) GoodR.nil
 ·exact key
 ·intro i s hi hs ih
  rw [List.drop_eq_getElem_cons hi, List.foldl_cons]
  have hn := ih _ (leanC_good (F := F) (r := ⟨a, b⟩) hs list[i])
  obtain ⟨c, hc⟩ : ∃ c, list[i] = c := ⟨_, rfl⟩
  have hup := up_ (show i < 4611686018427387904 by omega)
  refine Ev.succ ?_
  simp only [spec_LeansOn.l0, nat_lt, nat_0, hi, ↓reduceIte, rd_T49, getD_ _ hi, getDn_ _ hi, hc]
  rw [hc] at hn
  have skip : leanC F ⟨a, b⟩ s c = s → Ev (fun k => spec_LeansOn.j1 k list s F i true a b c.f0 c.f1.f0 c.f1.f1 c.f2 c.f3.f0 c.f3.f1 c.f4.f0 c.f4.f1 c.f5 c.f6) ((list.drop (i + 1)).foldl (leanC F ⟨a, b⟩) (leanC F ⟨a, b⟩ s c)) := by
   intro e
   rw [e] at hn ⊢
   refine Ev.succ ?_
   simp only [spec_LeansOn.j1, ↓reduceIte, hup]
   exact hn
  by_cases h1 : c.f1 = ⟨a, b⟩
  ·have e0 : c.f1.f0 = a := by rw [h1]
   have e1 : c.f1.f1 = b := by rw [h1]
   simp only [e0, e1, beq_self_eq_true, Bool.not_true, Bool.or_self, Bool.false_eq_true, ↓reduceIte]
   have hcr := spec_CredOk c.f0 c.f1.f0 c.f1.f1 c.f2 c.f3.f0 c.f3.f1 c.f4.f0 c.f4.f1 c.f5 c.f6
   rw [e0, e1] at hcr skip
   refine Ev.bind hcr ?_
   have ek : cOk c = credOkB c.f0 a b c.f2 c.f3.f0 c.f3.f1 c.f4.f0 c.f4.f1 c.f5 c.f6 := by unfold cOk; rw [e0, e1]
   rw [← ek]
   cases ok : cOk c
   ·simp only [Bool.false_eq_true, ↓reduceIte]
    exact skip (by unfold leanC; rw [if_neg (by rw [ok]; simp)])
   ·simp only [↓reduceIte]
    by_cases k1 : c.f0 = 1
    ·simp only [k1, beq_self_eq_true] at skip ⊢
     exact skip (by unfold leanC; rw [if_neg (by rintro ⟨_, _, h⟩; exact h k1)])
    ·obtain ⟨_, _, g3, g4, gn⟩ := cOk_bounds ok
     rw [show (c.f0 == 1) = false by simpa using k1]
     have eL : leanC F ⟨a, b⟩ s c = (if c.f0 = 3 then whoR F c.f3 c.f4.f1 6 (if c.f0 = 4 then addR (addR s c.f3) c.f4 else addR s c.f3) else (if c.f0 = 4 then addR (addR s c.f3) c.f4 else addR s c.f3)) := by
      unfold leanC
      rw [if_pos ⟨h1, ok, k1⟩]
     rw [eL]
     have hnx : ∀ acc, GoodR acc → Ev (fun k => spec_LeansOn.l0 k list acc F ((i + 1 : Nat) : Int) a b) ((list.drop (i + 1)).foldl (leanC F ⟨a, b⟩) acc) := fun acc hg => ih acc hg
     have j2 : ∀ acc, GoodR acc → Ev (fun k => spec_LeansOn.j2 k list acc F i a b c.f0 a b c.f2 c.f3.f0 c.f3.f1 c.f4.f0 c.f4.f1 c.f5 c.f6) ((list.drop (i + 1)).foldl (leanC F ⟨a, b⟩) (if c.f0 = 3 then whoR F c.f3 c.f4.f1 6 acc else acc)) := by
      intro acc hg
      refine Ev.succ ?_
      simp only [spec_LeansOn.j2]
      by_cases k3 : c.f0 = 3
      ·rw [if_pos k3]
       have := spec_who list F (by omega) i (by omega) a b c k3 gn _ hnx 6 acc (Nat.le_refl _) hg
       rw [e0, e1] at this
       exact this
      ·rw [if_neg k3]
       refine Ev.succ ?_
       simp only [spec_LeansOn.l1, show ((0 : Int) < 6) by omega, ↓reduceIte, show (c.f0 == 3) = false by simpa using k3]
       refine Ev.succ ?_
       simp only [spec_LeansOn.j4, Bool.false_eq_true, ↓reduceIte, hup]
       exact hnx acc hg
     have hsl := hs.len
     refine Ev.succ ?_
     simp only [spec_LeansOn.j1, Bool.false_eq_true, ↓reduceIte]
     refine Ev.bind (spec_add s _ _ (by omega)) ?_
     have g1 := hs.add (r := c.f3) g3
     by_cases k4 : c.f0 = 4
     ·simp only [k4, ↓reduceIte] at j2 ⊢
      have g1l := g1.len
      refine Ev.bind (spec_add (addR s c.f3) _ _ (by omega)) ?_
      exact j2 _ (g1.add (r := c.f4) g4)
     ·simp only [k4, ↓reduceIte]
      exact j2 _ g1
  ·have e : (!(c.f1.f0 == a) || !(c.f1.f1 == b)) = true := by
    cases h0 : (c.f1.f0 == a) <;> cases h2 : (c.f1.f1 == b)
    ·rfl
    ·rfl
    ·rfl
    ·exfalso
     rw [beq_iff_eq] at h0 h2
     exact h1 (by rw [← h0, ← h2])
   simp only [e, ↓reduceIte]
   exact skip (by unfold leanC; rw [if_neg (by rintro ⟨h, _⟩; exact h1 h)])
 ·intro s hs
  refine Ev.succ ?_
  simp only [spec_LeansOn.l0, nat_lt, Nat.lt_irrefl, ↓reduceIte, List.drop_length]
  exact Ev.now _
end Q
end Go.Proofs.Ytamhfnedknjjbaa
