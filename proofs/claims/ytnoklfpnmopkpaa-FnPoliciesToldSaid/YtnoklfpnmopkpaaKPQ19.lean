/-
What a policy tells of somebody, node by node, by the reference and by the program.
-/
import Derived.Test.YtnoklfpnmopkpaaKPQ16
namespace Go.Proofs.Ytnoklfpnmopkpaa
open Go.RowKit Go.Proofs.YtnoklfpnmopkpaaW.PrintWords Go.Proofs.YtnoklfpnmopkpaaW.PrintLast Go.Proofs.YtnoklfpnmopkpaaW.PrintMore Go.Proofs.Ytnoklfpnmopkpaa.PE
set_option linter.unusedVariables false
set_option linter.unusedSimpArgs false
namespace Q
def valD (facts : List Fc) (w : Int) (acc : List Bool) (x : Node) : Bool :=
 if x.f0 = 1 then decide ((⟨⟨x.f1.f0, x.f1.f1⟩, w⟩ : Fc) ∈ facts)
 else if x.f0 = 2 then rdOf false acc x.f2 && rdOf false acc x.f3
 else if x.f0 = 3 then rdOf false acc x.f2 || rdOf false acc x.f3
 else !rdOf false acc x.f2
def tellsD (facts : List Fc) (w : Int) (l : List Node) (acc : List Bool) : List Bool := l.foldl (fun a x => a ++ [valD facts w a x]) acc
def decideB (list : List Cr) (l : List Node) (w : Int) : Bool := if policyOkB l = true then rdOf false (tellsD (factsF list) w l []) ((l.length : Int) - 1) else false
theorem rdOf_app {s t : List Bool} {i : Int} (h0 : 0 ≤ i) (h : i < s.length) : rdOf false (s ++ t) i = rdOf false s i := by
 unfold rdOf
 rw [List.getD_eq_getElem?_getD, List.getD_eq_getElem?_getD, List.getElem?_append_left (by omega)]
theorem node_kinds {i : Nat} {x : Node} (h : nodeOkB i x = true) : x.f0 = 1 ∨ (x.f0 = 2 ∧ 0 ≤ x.f2 ∧ x.f2 < i ∧ 0 ≤ x.f3 ∧ x.f3 < i) ∨ (x.f0 = 3 ∧ 0 ≤ x.f2 ∧ x.f2 < i ∧ 0 ≤ x.f3 ∧ x.f3 < i) ∨ (x.f0 = 4 ∧ 0 ≤ x.f2 ∧ x.f2 < i) := by
 unfold nodeOkB at h
 by_cases h1 : x.f0 = 1
 ·exact .inl h1
 ·by_cases h2 : x.f0 = 2
  ·simp [h2, inB] at h
   exact .inr (.inl ⟨h2, by omega⟩)
  ·by_cases h3 : x.f0 = 3
   ·simp [h3, inB] at h
    exact .inr (.inr (.inl ⟨h3, by omega⟩))
   ·by_cases h4 : x.f0 = 4
    ·simp [h4, inB] at h
     exact .inr (.inr (.inr ⟨h4, by omega⟩))
    ·simp [h1, h2, h3, h4] at h
theorem tells_cons (facts : List Fc) (w : Int) (x : Node) (xs : List Node) (acc : List Bool) : tellsD facts w (x :: xs) acc = tellsD facts w xs (acc ++ [valD facts w acc x]) := rfl
theorem spec_Dec (list : List Cr) (hl : list.length ≤ 1048576) (l : List Node) (h : l.length ≤ 1048576) (w : Int) : Ev (fun k => spec_Decides.f k list l w) (decideB list l w) := by
 unfold spec_Decides.f decideB
 refine Ev.bind (spec_PolicyOk l h) ?_
 cases hp : policyOkB l
 ·simp only [Bool.false_eq_true, ↓reduceIte]
  exact Ev.now _
 ·obtain ⟨hn, hk⟩ := policyOk_nodes hp
  have hf := factsF_len list
  simp only [↓reduceIte]
  refine Ev.bind (spec_Facts list hl) ?_
  have key := Ev.up l.length (fun i (s : List Bool) k => spec_Decides.l0 k w (factsF list) s i l) (fun i s => rdOf false (tellsD (factsF list) w (l.drop i) s) ((l.length : Int) - 1)) (fun i s => s.length = i) ?_ ?_ 0 [] (Nat.zero_le _) (by simp)
  ·exact key
  ·intro i s hi hs ih
   refine Ev.succ ?_
   simp only [spec_Decides.l0, nat_lt, nat_0, hi, ↓reduceIte, rd_T57, getD_ _ hi, getDn_ _ hi, up_ (show i < 4611686018427387904 by omega), show s.length < 140737488355328 by omega]
   rw [List.drop_eq_getElem_cons hi, tells_cons]
   have hv := ih (s ++ [valD (factsF list) w s l[i]]) (by simp [hs])
   unfold valD at hv ⊢
   rcases node_kinds (hk i hi) with q | ⟨q, a1, a2, b1, b2⟩ | ⟨q, a1, a2, b1, b2⟩ | ⟨q, a1, a2⟩
   ·simp only [q, ↓reduceIte] at hv ⊢
    refine Ev.bind (spec_hasF (factsF list) _ _ w (by omega)) ?_
    exact hv
   ·simp only [q, show ¬ ((2 : Int) = 1) by omega, ↓reduceIte, a1, b1, hs, a2, b2] at hv ⊢
    cases hx : rdOf false s l[i].f2
    ·rw [hx, Bool.false_and] at hv
     simp only [Bool.false_eq_true, ↓reduceIte]
     exact hv
    ·rw [hx, Bool.true_and] at hv
     simp only [↓reduceIte]
     exact hv
   ·simp only [q, show ¬ ((3 : Int) = 1) by omega, show ¬ ((3 : Int) = 2) by omega, ↓reduceIte, a1, b1, hs, a2, b2] at hv ⊢
    cases hx : rdOf false s l[i].f2
    ·rw [hx, Bool.false_or] at hv
     simp only [Bool.false_eq_true, ↓reduceIte]
     exact hv
    ·rw [hx, Bool.true_or] at hv
     simp only [↓reduceIte]
     exact hv
   ·simp only [q, show ¬ ((4 : Int) = 1) by omega, show ¬ ((4 : Int) = 2) by omega, show ¬ ((4 : Int) = 3) by omega, ↓reduceIte, a1, hs, a2] at hv ⊢
    exact hv
  ·intro s hs
   refine Ev.succ ?_
   have e : wrap64 ((s.length : Int) - 1) = (l.length : Int) - 1 := by rw [w64 (by omega) (by omega)]; omega
   simp only [spec_Decides.l0, nat_lt, Nat.lt_irrefl, ↓reduceIte, List.drop_length, e, show (0 : Int) ≤ (l.length : Int) - 1 by omega, show (l.length : Int) - 1 < (s.length : Int) by omega]
   exact Ev.now _
theorem set_mid (s : List Bool) (n : Nat) (b : Bool) : (s ++ List.replicate (n + 1) false).set s.length b = (s ++ [b]) ++ List.replicate n false := by
 rw [List.replicate_succ]
 simp
theorem impl_Dec (list : List Cr) (hl : list.length ≤ 1048576) (l : List Node) (h : l.length ≤ 1048576) (w : Int) : Ev (fun k => impl_Decides.f k list l w) (decideB list l w) := by
 unfold impl_Decides.f decideB
 refine Ev.bind (impl_PolicyOk l h) ?_
 cases hp : policyOkB l
 ·simp only [Bool.false_eq_true, ↓reduceIte]
  exact Ev.now _
 ·obtain ⟨hn, hk⟩ := policyOk_nodes hp
  have hf := factsF_len list
  simp only [↓reduceIte]
  refine Ev.bind (impl_Facts list hl) ?_
  simp only [nat_0, ↓reduceIte, Int.toNat_natCast, show l.length ≤ 281474976710656 by omega]
  have key := Ev.up l.length (fun i (s : List Bool) k => impl_Decides.l0 k w (factsF list) (s ++ List.replicate (l.length - i) false) l l.length i) (fun i s => rdOf false (tellsD (factsF list) w (l.drop i) s) ((l.length : Int) - 1)) (fun i s => s.length = i) ?_ ?_ 0 [] (Nat.zero_le _) (by simp)
  ·exact key
  ·intro i s hi hs ih
   refine Ev.succ ?_
   have hsl : (s ++ List.replicate (l.length - i) false).length = l.length := by simp [hs]; omega
   have hset : ∀ b, (s ++ List.replicate (l.length - i) false).set i b = (s ++ [b]) ++ List.replicate (l.length - (i + 1)) false := by
    intro b
    have := set_mid s (l.length - (i + 1)) b
    rw [hs, show l.length - (i + 1) + 1 = l.length - i by omega] at this
    exact this
   simp only [impl_Decides.l0, nat_lt, nat_0, hi, ↓reduceIte, rd_T57, getD_ _ hi, getDn_ _ hi, up_ (show i < 4611686018427387904 by omega), hsl, Int.toNat_natCast, hset]
   rw [List.drop_eq_getElem_cons hi, tells_cons]
   have hv := ih (s ++ [valD (factsF list) w s l[i]]) (by simp [hs])
   unfold valD at hv ⊢
   rcases node_kinds (hk i hi) with q | ⟨q, a1, a2, b1, b2⟩ | ⟨q, a1, a2, b1, b2⟩ | ⟨q, a1, a2⟩
   ·simp only [q, ↓reduceIte] at hv ⊢
    refine Ev.bind (containsF (factsF list) _ _ w (by omega)) ?_
    exact hv
   ·simp only [q, show ¬ ((2 : Int) = 1) by omega, ↓reduceIte, a1, b1, show l[i].f2 < (l.length : Int) by omega, show l[i].f3 < (l.length : Int) by omega, rdOf_app a1 (show l[i].f2 < (s.length : Int) by omega), rdOf_app b1 (show l[i].f3 < (s.length : Int) by omega)] at hv ⊢
    cases hx : rdOf false s l[i].f2
    ·rw [hx, Bool.false_and] at hv
     simp only [Bool.false_eq_true, ↓reduceIte]
     exact hv
    ·rw [hx, Bool.true_and] at hv
     simp only [↓reduceIte]
     exact hv
   ·simp only [q, show ¬ ((3 : Int) = 1) by omega, show ¬ ((3 : Int) = 2) by omega, ↓reduceIte, a1, b1, show l[i].f2 < (l.length : Int) by omega, show l[i].f3 < (l.length : Int) by omega, rdOf_app a1 (show l[i].f2 < (s.length : Int) by omega), rdOf_app b1 (show l[i].f3 < (s.length : Int) by omega)] at hv ⊢
    cases hx : rdOf false s l[i].f2
    ·rw [hx, Bool.false_or] at hv
     simp only [Bool.false_eq_true, ↓reduceIte]
     exact hv
    ·rw [hx, Bool.true_or] at hv
     simp only [↓reduceIte]
     exact hv
   ·simp only [q, show ¬ ((4 : Int) = 1) by omega, show ¬ ((4 : Int) = 2) by omega, show ¬ ((4 : Int) = 3) by omega, ↓reduceIte, a1, show l[i].f2 < (l.length : Int) by omega, rdOf_app a1 (show l[i].f2 < (s.length : Int) by omega)] at hv ⊢
    exact hv
  ·intro s hs
   refine Ev.succ ?_
   rw [Nat.sub_self, List.replicate_zero, List.append_nil]
   have e : wrap64 ((s.length : Int) - 1) = (l.length : Int) - 1 := by rw [w64 (by omega) (by omega)]; omega
   simp only [impl_Decides.l0, nat_lt, Nat.lt_irrefl, ↓reduceIte, List.drop_length, e, show (0 : Int) ≤ (l.length : Int) - 1 by omega, show (l.length : Int) - 1 < (s.length : Int) by omega]
   exact Ev.now _
end Q
end Go.Proofs.Ytnoklfpnmopkpaa
