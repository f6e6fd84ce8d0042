/-
Policies as texts: the reference's and the program's PolicyText put the same bytes together.
-/
import Derived.Test.YtnoklfpnmopkpaaKPPEx23
import Derived.Test.YtnoklfpnmopkpaaKPQ2
namespace Go.Proofs.Ytnoklfpnmopkpaa
open Go.RowKit Go.Proofs.YtnoklfpnmopkpaaW.PrintWords Go.Proofs.YtnoklfpnmopkpaaW.PrintLast Go.Proofs.YtnoklfpnmopkpaaW.PrintMore Go.Proofs.Ytnoklfpnmopkpaa.PE
set_option linter.unusedVariables false
set_option linter.unusedSimpArgs false
namespace Q
theorem nodeOk_bounds {i : Nat} {x : Node} (hi : i < 1048576) (h : nodeOkB i x = true) : (1 ≤ x.f0 ∧ x.f0 ≤ 4) ∧ (0 ≤ x.f1.f0 ∧ x.f1.f0 ≤ 5) ∧ (0 ≤ x.f1.f1 ∧ x.f1.f1 ≤ 3) ∧ (0 ≤ x.f2 ∧ x.f2 ≤ 1048576) ∧ (0 ≤ x.f3 ∧ x.f3 ≤ 1048576) := by
 unfold nodeOkB at h
 by_cases h1 : x.f0 = 1
 ·simp [h1, inB, roleOkB] at h; omega
 ·by_cases h2 : x.f0 = 2 ∨ x.f0 = 3
  ·rw [if_neg h1, if_pos h2] at h
   simp [inB] at h; omega
  ·by_cases h4 : x.f0 = 4
   ·simp [h4, inB] at h; omega
   ·simp [h1, h2, h4] at h
theorem policyOk_nodes {l : List Node} (h : policyOkB l = true) : (1 ≤ l.length ∧ l.length ≤ 40) ∧ ∀ (i : Nat) (hi : i < l.length), nodeOkB i l[i] = true := by
 unfold policyOkB nodesB at h
 rw [Bool.and_eq_true, inB_iff, allFrom_iff l.length 0 rfl] at h
 refine ⟨by omega, fun i hi => ?_⟩
 have := h.2 i (Nat.zero_le _) hi
 rwa [getDn_ _ hi] at this
def nodeText (x : Node) : ByteArray := ((((vtB x.f0 ++ vtB x.f1.f0) ++ vtB x.f1.f1) ++ vtB x.f2) ++ vtB x.f3)
def nodesText (l : List Node) (acc : ByteArray) : ByteArray := l.foldl (fun a x => a ++ nodeText x) acc
def policyTextB (l : List Node) : ByteArray := if policyOkB l = true then nodesText l (vtB l.length) else ⟨#[]⟩
theorem vtB_small {n : Int} (h0 : 0 ≤ n) (h1 : n ≤ 1048576) : (vtB n).size ≤ 1048577 := by have := vtB_size n h0; omega
theorem spec_PolicyText (l : List Node) (h : l.length ≤ 1048576) : Ev (fun k => spec_PolicyText.f k l) (policyTextB l) := by
 unfold spec_PolicyText.f policyTextB
 refine Ev.bind (spec_PolicyOk l h) ?_
 cases hp : policyOkB l
 ·exact Ev.now _
 ·obtain ⟨hl, hn⟩ := policyOk_nodes hp
  simp only [↓reduceIte]
  refine Ev.bind (spec_l01Var l.length (by omega) (by omega)) ?_
  have key := Ev.up l.length (fun i (s : ByteArray) k => spec_PolicyText.l0 k s i l) (fun i s => nodesText (l.drop i) s) (fun i s => s.size ≤ 2000000 + i * 6000000) ?_ ?_ 0 (vtB l.length) (Nat.zero_le _) (by have := vtB_small (n := l.length) (by omega) (by omega); omega)
  ·exact key
  ·intro i s hi hs ih
   refine Ev.succ ?_
   obtain ⟨b0, b1, b2, b3, b4⟩ := nodeOk_bounds (by omega) (hn i hi)
   have s0 := vtB_small (n := l[i].f0) (by omega) (by omega)
   have s1 := vtB_small (n := l[i].f1.f0) (by omega) (by omega)
   have s2 := vtB_small (n := l[i].f1.f1) (by omega) (by omega)
   have s3 := vtB_small (n := l[i].f2) (by omega) (by omega)
   have s4 := vtB_small (n := l[i].f3) (by omega) (by omega)
   simp only [spec_PolicyText.l0, nat_lt, nat_0, hi, ↓reduceIte, rd_T57, getD_ _ hi, getDn_ _ hi, up_ (show i < 4611686018427387904 by omega), ByteArray.size_append]
   refine Ev.bind (spec_l01Var _ (by omega) (by omega)) ?_
   simp only [show s.size + (vtB l[i].f0).size ≤ 9223372036854775807 by omega, ↓reduceIte]
   refine Ev.bind (spec_l01Var _ (by omega) (by omega)) ?_
   simp only [show s.size + (vtB l[i].f0).size + (vtB l[i].f1.f0).size ≤ 9223372036854775807 by omega, ↓reduceIte]
   refine Ev.bind (spec_l01Var _ (by omega) (by omega)) ?_
   simp only [show s.size + (vtB l[i].f0).size + (vtB l[i].f1.f0).size + (vtB l[i].f1.f1).size ≤ 9223372036854775807 by omega, ↓reduceIte]
   refine Ev.bind (spec_l01Var _ (by omega) (by omega)) ?_
   simp only [show s.size + (vtB l[i].f0).size + (vtB l[i].f1.f0).size + (vtB l[i].f1.f1).size + (vtB l[i].f2).size ≤ 9223372036854775807 by omega, ↓reduceIte]
   refine Ev.bind (spec_l01Var _ (by omega) (by omega)) ?_
   simp only [show s.size + (vtB l[i].f0).size + (vtB l[i].f1.f0).size + (vtB l[i].f1.f1).size + (vtB l[i].f2).size + (vtB l[i].f3).size ≤ 9223372036854775807 by omega, ↓reduceIte]
   rw [List.drop_eq_getElem_cons hi]
   have e : nodesText (l[i] :: l.drop (i + 1)) s = nodesText (l.drop (i + 1)) (((((s ++ vtB l[i].f0) ++ vtB l[i].f1.f0) ++ vtB l[i].f1.f1) ++ vtB l[i].f2) ++ vtB l[i].f3) := by
    show nodesText (l.drop (i + 1)) (s ++ nodeText l[i]) = _
    unfold nodeText
    simp only [ByteArray.append_assoc]
   rw [e]
   exact ih _ (by simp only [ByteArray.size_append]; omega)
  ·intro s _
   refine Ev.succ ?_
   simp only [spec_PolicyText.l0, nat_lt, Nat.lt_irrefl, ↓reduceIte, List.drop_length]
   exact Ev.now _
theorem impl_PolicyText (l : List Node) (h : l.length ≤ 1048576) : Ev (fun k => impl_PolicyText.f k l) (policyTextB l) := by
 unfold impl_PolicyText.f policyTextB
 refine Ev.bind (impl_PolicyOk l h) ?_
 cases hp : policyOkB l
 ·exact Ev.now _
 ·obtain ⟨hl, hn⟩ := policyOk_nodes hp
  simp only [↓reduceIte]
  refine Ev.bind (impl_varText l.length (by omega) (by omega)) ?_
  have key := Ev.up l.length (fun i (s : ByteArray) k => impl_PolicyText.l0 k s l l.length i) (fun i s => nodesText (l.drop i) s) (fun i s => s.size ≤ 2000000 + i * 6000000) ?_ ?_ 0 (vtB l.length) (Nat.zero_le _) (by have := vtB_small (n := l.length) (by omega) (by omega); omega)
  ·exact key
  ·intro i s hi hs ih
   refine Ev.succ ?_
   obtain ⟨b0, b1, b2, b3, b4⟩ := nodeOk_bounds (by omega) (hn i hi)
   have s0 := vtB_small (n := l[i].f0) (by omega) (by omega)
   have s1 := vtB_small (n := l[i].f1.f0) (by omega) (by omega)
   have s2 := vtB_small (n := l[i].f1.f1) (by omega) (by omega)
   have s3 := vtB_small (n := l[i].f2) (by omega) (by omega)
   have s4 := vtB_small (n := l[i].f3) (by omega) (by omega)
   simp only [impl_PolicyText.l0, nat_lt, nat_0, hi, ↓reduceIte, rd_T57, getD_ _ hi, getDn_ _ hi, up_ (show i < 4611686018427387904 by omega), ByteArray.size_append]
   refine Ev.bind (impl_varText _ (by omega) (by omega)) ?_
   refine Ev.bind (impl_varText _ (by omega) (by omega)) ?_
   simp only [show (vtB l[i].f0).size + (vtB l[i].f1.f0).size ≤ 9223372036854775807 by omega, ↓reduceIte]
   refine Ev.bind (impl_varText _ (by omega) (by omega)) ?_
   simp only [show (vtB l[i].f0).size + (vtB l[i].f1.f0).size + (vtB l[i].f1.f1).size ≤ 9223372036854775807 by omega, ↓reduceIte]
   refine Ev.bind (impl_varText _ (by omega) (by omega)) ?_
   simp only [show (vtB l[i].f0).size + (vtB l[i].f1.f0).size + (vtB l[i].f1.f1).size + (vtB l[i].f2).size ≤ 9223372036854775807 by omega, ↓reduceIte]
   refine Ev.bind (impl_varText _ (by omega) (by omega)) ?_
   simp only [show (vtB l[i].f0).size + (vtB l[i].f1.f0).size + (vtB l[i].f1.f1).size + (vtB l[i].f2).size + (vtB l[i].f3).size ≤ 9223372036854775807 by omega,
    show s.size + ((vtB l[i].f0).size + (vtB l[i].f1.f0).size + (vtB l[i].f1.f1).size + (vtB l[i].f2).size + (vtB l[i].f3).size) ≤ 9223372036854775807 by omega, ↓reduceIte]
   rw [List.drop_eq_getElem_cons hi]
   exact ih (s ++ nodeText l[i]) (by unfold nodeText; simp only [ByteArray.size_append]; omega)
  ·intro s _
   refine Ev.succ ?_
   simp only [impl_PolicyText.l0, nat_lt, Nat.lt_irrefl, ↓reduceIte, List.drop_length]
   exact Ev.now _
end Q
end Go.Proofs.Ytnoklfpnmopkpaa
