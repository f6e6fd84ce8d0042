/-
Proofs out of their texts: the reference and the program read the same, the whole text.
-/
import Derived.Test.YteppfdkfikeclaaKRQ47
namespace Go.Proofs.Yteppfdkfikeclaa
open Go.RowKit Go.Proofs.YteppfdkfikeclaaW.PrintWords Go.Proofs.YteppfdkfikeclaaW.PrintLast Go.Proofs.YteppfdkfikeclaaW.PrintMore Go.Proofs.Yteppfdkfikeclaa.PL
set_option linter.unusedVariables false
set_option linter.unusedSimpArgs false
namespace Q
def Bad (out : List Step) : Prop := 200 < out.length ∨ ∃ s ∈ out, (stB s).2 = false
theorem proofB_ok : ∀ (l : List Step) (acc : ByteArray), (∀ s ∈ l, (stB s).2 = true) → (proofB l acc).2 = true ∧ L8 (proofB l acc).1 = L8 acc ++ l.flatMap (fun s => L8 (stB s).1) := by
 intro l
 induction l with
 | nil => intro acc _; simp [proofB]
 | cons x xs ih =>
  intro acc h
  unfold proofB
  rw [if_pos (h x (List.mem_cons_self ..))]
  obtain ⟨h1, h2⟩ := ih (acc ++ (stB x).1) (fun s hs => h s (List.mem_cons_of_mem _ hs))
  exact ⟨h1, by rw [h2, L8_app, List.flatMap_cons, List.append_assoc]⟩
theorem proofB_bad : ∀ (l : List Step) (acc : ByteArray), (∃ s ∈ l, (stB s).2 = false) → (proofB l acc).2 = false := by
 intro l
 induction l with
 | nil => rintro acc ⟨s, hs, _⟩; exact absurd hs (by simp)
 | cons x xs ih =>
  rintro acc ⟨s, hs, h⟩
  unfold proofB
  by_cases hx : (stB x).2 = true
  ·rw [if_pos hx]
   rcases List.mem_cons.1 hs with rfl | hs
   ·rw [h] at hx; exact absurd hx (by simp)
   ·exact ih _ ⟨s, hs, h⟩
  ·rw [if_neg hx]
theorem text_bad {out : List Step} (h : Bad out) : (proofTextB out).2 = false := by
 unfold proofTextB
 by_cases hl : out.length ≤ 200
 ·rw [if_pos hl]
  rcases h with h | h
  ·omega
  ·exact proofB_bad _ _ h
 ·rw [if_neg hl]
theorem spec_end (t : ByteArray) (out : List Step) (at_ : Int) (h : (proofTextB out).2 = false) : Ev (fun k => spec_ReadProof.j1 k t out at_ false) ([], false) := by
 refine Ev.succ ?_
 simp only [spec_ReadProof.j1, Bool.false_eq_true, ↓reduceIte]
 refine Ev.bind (spec_ProofText out) ?_
 simp only [h, Bool.false_eq_true, ↓reduceIte]
 exact Ev.now _
theorem spec_bad (t : ByteArray) (ht : t.size ≤ 1048576) : ∀ (d : Nat) (out : List Step) (at_ : Int), (t.size : Int) - at_ ≤ (d : Int) → out.length ≤ 201 → Bad out → Ev (fun k => spec_ReadProof.l0 k t out at_) ([], false) := by
 intro d
 induction d with
 | zero =>
  intro out at_ hd hl hb
  refine Ev.succ ?_
  simp only [spec_ReadProof.l0, show ¬ (at_ < (t.size : Int)) by omega, ↓reduceIte]
  exact spec_end t out at_ (text_bad hb)
 | succ d ih =>
  intro out at_ hd hl hb
  refine Ev.succ ?_
  by_cases ha : at_ < (t.size : Int)
  ·by_cases h2 : out.length ≤ 200
   ·simp only [spec_ReadProof.l0, ha, ↓reduceIte, show (out.length : Int) ≤ 200 by omega, decide_true]
    refine Ev.succ ?_
    simp only [spec_ReadProof.j1, ↓reduceIte]
    refine Ev.bind (spec_Step t ht at_) ?_
    unfold specStep
    cases hs : stepR t at_ with
    | none =>
     simp only [tupS, show ((-1 : Int) < 0) by omega, ↓reduceIte]
     exact Ev.now _
    | some x =>
     obtain ⟨s, e⟩ := x
     obtain ⟨o1, o2, o3, o4, o5⟩ := stepR_own hs
     simp only [tupS, show ¬ (e < 0) by omega, ↓reduceIte, show out.length < 1099511627776 by omega]
     refine ih (out ++ [s]) e (by omega) (by simp; omega) ?_
     rcases hb with hb | ⟨y, hy, h⟩
     ·exact .inl (by simp; omega)
     ·exact .inr ⟨y, List.mem_append_left _ hy, h⟩
   ·simp only [spec_ReadProof.l0, ha, ↓reduceIte, show ¬ ((out.length : Int) ≤ 200) by omega, decide_false]
    exact spec_end t out at_ (text_bad hb)
  ·simp only [spec_ReadProof.l0, ha, ↓reduceIte]
   exact spec_end t out at_ (text_bad hb)
theorem both_end (t : ByteArray) (ht : t.size ≤ 1048576) (out : List Step) (at_ : Int) (he : at_ = (t.size : Int)) (hl : out.length ≤ 200) (hok : ∀ s ∈ out, (stB s).2 = true ∧ s.f2.length ≤ 2) (htx : (L8 t).take at_.toNat = out.flatMap (fun s => L8 (stB s).1)) :
  ∃ r : List Step × Bool, Ev (fun k => impl_ReadProof.l0 k t out at_) r ∧ Ev (fun k => spec_ReadProof.l0 k t out at_) r ∧ r.1.length ≤ 200 ∧ ∀ s ∈ r.1, s.f2.length ≤ 2 := by
 have ha : ¬ (at_ < (t.size : Int)) := by omega
 refine ⟨(out, true), ?_, ?_, hl, fun s hs => (hok s hs).2⟩
 ·refine Ev.succ ?_
  simp only [impl_ReadProof.l0, ha, ↓reduceIte]
  exact Ev.now _
 ·refine Ev.succ ?_
  simp only [spec_ReadProof.l0, ha, ↓reduceIte]
  refine Ev.succ ?_
  simp only [spec_ReadProof.j1, Bool.false_eq_true, ↓reduceIte]
  refine Ev.bind (spec_ProofText out) ?_
  obtain ⟨p1, p2⟩ := proofB_ok out ⟨#[]⟩ (fun s hs => (hok s hs).1)
  have e1 : proofTextB out = proofB out ⟨#[]⟩ := by unfold proofTextB; rw [if_pos hl]
  have e2 : (proofB out ⟨#[]⟩).1.toList = t.toList := by
   rw [toList_eq, toList_eq]
   show L8 _ = L8 t
   rw [p2, ← htx, he, Int.toNat_natCast, ← L8_len, List.take_length]
   rfl
  rw [e1]
  simp only [p1, e2, ↓reduceIte]
  exact Ev.now _
theorem both_Read0 (t : ByteArray) (ht : t.size ≤ 1048576) : ∀ (d : Nat) (out : List Step) (at_ : Int), (t.size : Int) - at_ ≤ (d : Int) → 0 ≤ at_ → at_ ≤ t.size → out.length ≤ 200 → (∀ s ∈ out, (stB s).2 = true ∧ s.f2.length ≤ 2) → (L8 t).take at_.toNat = out.flatMap (fun s => L8 (stB s).1) →
  ∃ r : List Step × Bool, Ev (fun k => impl_ReadProof.l0 k t out at_) r ∧ Ev (fun k => spec_ReadProof.l0 k t out at_) r ∧ r.1.length ≤ 200 ∧ ∀ s ∈ r.1, s.f2.length ≤ 2 := by
 intro d
 induction d with
 | zero =>
  intro out at_ hd h0 h1 hl hok htx
  exact both_end t ht out at_ (by omega) hl hok htx
 | succ d ih =>
  intro out at_ hd h0 h1 hl hok htx
  by_cases ha : at_ < (t.size : Int)
  ·cases hs : stepR t at_ with
   | none =>
    refine ⟨([], false), ?_, ?_, by simp, by simp⟩
    ·refine Ev.succ ?_
     simp only [impl_ReadProof.l0, ha, ↓reduceIte]
     refine Ev.bind (impl_Step t ht at_) ?_
     unfold implStep
     rw [hs]
     simp only [Bool.false_eq_true, ↓reduceIte]
     exact Ev.now _
    ·refine Ev.succ ?_
     simp only [spec_ReadProof.l0, ha, ↓reduceIte, show (out.length : Int) ≤ 200 by omega, decide_true]
     refine Ev.succ ?_
     simp only [spec_ReadProof.j1, ↓reduceIte]
     refine Ev.bind (spec_Step t ht at_) ?_
     unfold specStep
     rw [hs]
     simp only [tupS, show ((-1 : Int) < 0) by omega, ↓reduceIte]
     exact Ev.now _
   | some x =>
    obtain ⟨s, e⟩ := x
    obtain ⟨o1, o2, o3, o4, o5⟩ := stepR_own hs
    have spec1 : ∀ r, Ev (fun k => spec_ReadProof.l0 k t (out ++ [s]) e) r → Ev (fun k => spec_ReadProof.l0 k t out at_) r := by
     intro r hr
     refine Ev.succ ?_
     simp only [spec_ReadProof.l0, ha, ↓reduceIte, show (out.length : Int) ≤ 200 by omega, decide_true]
     refine Ev.succ ?_
     simp only [spec_ReadProof.j1, ↓reduceIte]
     refine Ev.bind (spec_Step t ht at_) ?_
     unfold specStep
     rw [hs]
     simp only [tupS, show ¬ (e < 0) by omega, ↓reduceIte, show out.length < 1099511627776 by omega]
     exact hr
    by_cases hst : (stB s).2 = true
    ·by_cases hl2 : out.length = 200
     ·refine ⟨([], false), ?_, ?_, by simp, by simp⟩
      ·refine Ev.succ ?_
       simp only [impl_ReadProof.l0, ha, ↓reduceIte]
       refine Ev.bind (impl_Step t ht at_) ?_
       unfold implStep
       rw [hs]
       simp only [hst, ↓reduceIte, show (out.length : Int) = 200 by omega]
       exact Ev.now _
      ·exact spec1 _ (spec_bad t ht d (out ++ [s]) e (by omega) (by simp; omega) (.inl (by simp; omega)))
     ·obtain ⟨r, r1, r2, r3, r4⟩ := ih (out ++ [s]) e (by omega) (by omega) o3 (by simp; omega) (by
       intro y hy
       rcases List.mem_append.1 hy with hy | hy
       ·exact hok y hy
       ·rw [List.mem_singleton] at hy
        subst hy
        exact ⟨hst, o4⟩) (by rw [o5 hst, htx, List.flatMap_append]; simp)
      refine ⟨r, ?_, spec1 _ r2, r3, r4⟩
      refine Ev.succ ?_
      simp only [impl_ReadProof.l0, ha, ↓reduceIte]
      refine Ev.bind (impl_Step t ht at_) ?_
      unfold implStep
      rw [hs]
      simp only [hst, ↓reduceIte, show ¬ ((out.length : Int) = 200) by omega, show out.length < 1099511627776 by omega]
      exact r1
    ·refine ⟨([], false), ?_, ?_, by simp, by simp⟩
     ·refine Ev.succ ?_
      simp only [impl_ReadProof.l0, ha, ↓reduceIte]
      refine Ev.bind (impl_Step t ht at_) ?_
      unfold implStep
      rw [hs]
      simp only [hst, Bool.false_eq_true, ↓reduceIte]
      exact Ev.now _
     ·exact spec1 _ (spec_bad t ht d (out ++ [s]) e (by omega) (by simp; omega) (.inr ⟨s, by simp, Bool.eq_false_iff.2 hst⟩))
  ·have he : at_ = (t.size : Int) := by omega
   exact both_end t ht out at_ he hl hok htx
theorem both_Read (t : ByteArray) (ht : t.size ≤ 1048576) : ∃ r : List Step × Bool, Ev (fun k => impl_ReadProof.f k t) r ∧ Ev (fun k => spec_ReadProof.f k t) r ∧ r.1.length ≤ 200 ∧ ∀ s ∈ r.1, s.f2.length ≤ 2 := by
 unfold impl_ReadProof.f spec_ReadProof.f
 exact both_Read0 t ht t.size [] 0 (by omega) (Int.le_refl _) (by omega) (by simp) (by simp) (by simp)
end Q
end Go.Proofs.Yteppfdkfikeclaa
