/-
Draws of policies, right or not, and of their texts, spoilt or not: how long they are.
-/
import Derived.Test.YtnoklfpnmopkpaaKPQ22
namespace Go.Proofs.Ytnoklfpnmopkpaa
open Go.RowKit Go.Proofs.YtnoklfpnmopkpaaW.PrintWords Go.Proofs.YtnoklfpnmopkpaaW.PrintLast Go.Proofs.YtnoklfpnmopkpaaW.PrintMore Go.Proofs.Ytnoklfpnmopkpaa.PE
set_option linter.unusedVariables false
set_option linter.unusedSimpArgs false
namespace Q
theorem belowN {b : List Int} {i : Int} (h : Int) (hc : Cu b i) (n : Int) : ∃ v i' h', spec_l01Below.f b i h n = some (v, i', h') ∧ Cu b i' ∧ 0 ≤ v ∧ (0 < n → v < n) ∧ (n ≤ 0 → v = 0) := by
 by_cases hn : n ≤ 256
 ·exact below_ h hc n hn
 ·unfold spec_l01Below.f
  rw [if_neg (show ¬ n ≤ 0 by omega), if_neg hn]
  obtain ⟨x, i1, h1, e1, x0, x1, c1⟩ := byte_ h hc
  obtain ⟨y, i2, h2, e2, y0, y1, c2⟩ := byte_ h1 c1
  obtain ⟨z, i3, h3, e3, z0, z1, c3⟩ := byte_ h2 c2
  obtain ⟨u, i4, h4, e4, u0, u1, c4⟩ := byte_ h3 c3
  simp only [e1, e2, e3, e4, Option.bind_some, show ¬ n = 0 by omega, ↓reduceIte, w64 (n := x * 16777216) (by omega) (by omega), w64 (n := y * 65536) (by omega) (by omega), w64 (n := z * 256) (by omega) (by omega), w64 (n := x * 16777216 + y * 65536) (by omega) (by omega), w64 (n := x * 16777216 + y * 65536 + z * 256) (by omega) (by omega), w64 (n := x * 16777216 + y * 65536 + z * 256 + u) (by omega) (by omega)]
  exact ⟨_, _, _, rfl, c4, Int.tmod_nonneg _ (by omega), fun _ => Int.tmod_lt_of_pos _ (by omega), fun h => by omega⟩
theorem anyP_ {b : List Int} {i : Int} (h : Int) (hc : Cu b i) : ∃ l x' y', Ev (fun k => spec_l21Any.f k b i h) (l, x', y') ∧ l.length ≤ 8 ∧ Cu b x' := by
 obtain ⟨v, x1, y1, e1, c1, v0, v1, _⟩ := below_ h hc 10 (by omega)
 obtain ⟨w, x2, y2, e2, c2, w0, w1, _⟩ := below_ y1 c1 60 (by omega)
 obtain ⟨p, x3, y3, e3, hl, hg, c3⟩ := policy_ (b := b) (most := 4) (Or.inr rfl) 8 0 [] x2 y2 rfl (by omega) rfl (GoodP.nil _) c2
 have e3' : Ev (fun k => spec_l21Policy.f k b x2 y2 4) (p, x3, y3) := by unfold spec_l21Policy.f; exact e3
 have m0 : 0 ≤ Int.tmod w (p.length : Int) := Int.tmod_nonneg _ w0
 have m1 : Int.tmod w (p.length : Int) < (p.length : Int) := Int.tmod_lt_of_pos _ (by omega)
 unfold spec_l21Any.f
 simp only [e1, e2, Option.bind_some]
 by_cases k0 : v = 0
 ·refine ⟨?l1_, ?x1_, ?y1_, Ev.bind e3' ?e1_, ?g1_, ?c1_⟩
  case e1_ => simp only [show ¬ (p.length : Int) = 0 by omega, ↓reduceIte, k0, m0, m1]; exact Ev.now _
  case g1_ => rw [List.length_set]; omega
  case c1_ => exact c3
 by_cases k1 : v = 1
 ·refine ⟨?l2_, ?x2_, ?y2_, Ev.bind e3' ?e2_, ?g2_, ?c2_⟩
  case e2_ => simp only [show ¬ (p.length : Int) = 0 by omega, ↓reduceIte, k1, m0, m1, show ¬ (1 : Int) = 0 by omega]; exact Ev.now _
  case g2_ => rw [List.length_set]; omega
  case c2_ => exact c3
 by_cases k2 : v = 2
 ·refine ⟨?l3_, ?x3_, ?y3_, Ev.bind e3' ?e3_, ?g3_, ?c3_⟩
  case e3_ => simp only [show ¬ (p.length : Int) = 0 by omega, ↓reduceIte, k2, m0, m1, show ¬ (2 : Int) = 0 by omega, show ¬ (2 : Int) = 1 by omega]; exact Ev.now _
  case g3_ => rw [List.length_set]; omega
  case c3_ => exact c3
 by_cases k3 : v = 3
 ·refine ⟨?l4_, ?x4_, ?y4_, Ev.bind e3' ?e4_, ?g4_, ?c4_⟩
  case e4_ => simp only [show ¬ (p.length : Int) = 0 by omega, ↓reduceIte, k3, m0, m1, show ¬ (3 : Int) = 0 by omega, show ¬ (3 : Int) = 1 by omega, show ¬ (3 : Int) = 2 by omega]; exact Ev.now _
  case g4_ => simp
  case c4_ => exact c3
 ·refine ⟨?l5_, ?x5_, ?y5_, Ev.bind e3' ?e5_, ?g5_, ?c5_⟩
  case e5_ => simp only [show ¬ (p.length : Int) = 0 by omega, ↓reduceIte, k0, k1, k2, k3, m0, m1]; exact Ev.now _
  case g5_ => omega
  case c5_ => exact c3
theorem draw_Dec (l : List Int) (hl : l.length ≤ 2097152) : ∃ (r : List Cr) (p : List Node) (w : Int), Ev (fun k => spec_DrawDecides.f k l) (r, p, w) ∧ r.length ≤ 10 ∧ p.length ≤ 8 := by
 obtain ⟨h, e⟩ := new_ l hl
 obtain ⟨v, x1, y1, e1, c1, _⟩ := below_ (b := l) (i := 0) h ⟨by omega, by omega, hl⟩ 8 (by omega)
 obtain ⟨p, x2, y2, e2, h2, c2⟩ := anyP_ y1 c1
 obtain ⟨r, x3, y3, e3, h3, c3⟩ := words_ y2 c2
 refine ⟨r, p, wrap64 (v - 1), ?_, h3, h2⟩
 unfold spec_DrawDecides.f
 refine Ev.bind e ?_
 simp only [e1, Option.bind_some]
 refine Ev.bind e2 ?_
 refine Ev.bind e3 ?_
 exact Ev.now _
theorem draw_Pr (l : List Int) (hl : l.length ≤ 2097152) : ∃ p : List Node, Ev (fun k => spec_DrawPolicyRoles.f k l) p ∧ p.length ≤ 8 := by
 obtain ⟨h, e⟩ := new_ l hl
 obtain ⟨p, x2, y2, e2, h2, c2⟩ := anyP_ (b := l) (i := 0) h ⟨by omega, by omega, hl⟩
 refine ⟨p, ?_, h2⟩
 unfold spec_DrawPolicyRoles.f
 refine Ev.bind e ?_
 refine Ev.bind e2 ?_
 exact Ev.now _
theorem draw_Pt (l : List Int) (hl : l.length ≤ 2097152) : ∃ p : List Node, Ev (fun k => spec_DrawPolicyText.f k l) p ∧ p.length ≤ 8 := by
 obtain ⟨h, e⟩ := new_ l hl
 obtain ⟨p, x2, y2, e2, h2, c2⟩ := anyP_ (b := l) (i := 0) h ⟨by omega, by omega, hl⟩
 refine ⟨p, ?_, h2⟩
 unfold spec_DrawPolicyText.f
 refine Ev.bind e ?_
 refine Ev.bind e2 ?_
 exact Ev.now _
theorem once_ {b : List Int} {i : Int} (h : Int) (hc : Cu b i) (n : Int) (hn : n ≤ 256) : ∃ (v : Bool) (i' h' : Int), spec_l01Once.f b i h n = some (v, i', h') ∧ Cu b i' := by
 unfold spec_l01Once.f
 obtain ⟨v, i1, h1, e1, c1, _⟩ := below_ h hc n hn
 rw [e1]
 exact ⟨_, _, _, rfl, c1⟩
theorem draw_Ri (l : List Int) (hl : l.length ≤ 2097152) : ∃ p : List Node, Ev (fun k => spec_DrawRising.f k l) p ∧ p.length ≤ 8 := by
 obtain ⟨h, e⟩ := new_ l hl
 obtain ⟨v, x1, y1, e1, c1⟩ := once_ (b := l) (i := 0) h ⟨by omega, by omega, hl⟩ 2 (by omega)
 cases v with
 | true =>
  obtain ⟨p, x3, y3, e3, hl, hg, c3⟩ := policy_ (b := l) (most := 3) (Or.inl rfl) 8 0 [] x1 y1 rfl (by omega) rfl (GoodP.nil _) c1
  have e3' : Ev (fun k => spec_l21Policy.f k l x1 y1 3) (p, x3, y3) := by unfold spec_l21Policy.f; exact e3
  refine ⟨p, ?_, hl.2⟩
  unfold spec_DrawRising.f
  refine Ev.bind e ?_
  simp only [e1, Option.bind_some, ↓reduceIte]
  refine Ev.bind e3' ?_
  exact Ev.now _
 | false =>
  obtain ⟨p, x2, y2, e2, h2, c2⟩ := anyP_ y1 c1
  refine ⟨p, ?_, h2⟩
  unfold spec_DrawRising.f
  refine Ev.bind e ?_
  simp only [e1, Option.bind_some, Bool.false_eq_true, ↓reduceIte]
  refine Ev.bind e2 ?_
  exact Ev.now _
theorem small_ok {l : List Node} (h : policyOkB l = true) : ∀ x ∈ l, Sm x := by
 intro x hx
 obtain ⟨j, hj, rfl⟩ := List.mem_iff_getElem.1 hx
 obtain ⟨hl, hn⟩ := policyOk_nodes h
 have h1 := hn j hj
 have h0 := h1
 have hb := nodeOk_bounds (by omega) h1
 unfold nodeOkB at h1
 rcases kinds_ h0 with q | ⟨q, k⟩ | ⟨q, k⟩ | ⟨q, k⟩
 ·simp [q] at h1
  unfold Sm
  omega
 ·unfold Sm
  omega
 ·unfold Sm
  omega
 ·simp [q] at h1
  unfold Sm
  omega
theorem size_ok (q : List Node) (h : q.length ≤ 1048576) : (policyTextB q).size ≤ 1000 := by
 unfold policyTextB
 by_cases hp : policyOkB q = true
 ·rw [if_pos hp]
  have hs := small_ok hp
  obtain ⟨hl, _⟩ := policyOk_nodes hp
  have hlen : ∀ l : List Node, (∀ x ∈ l, Sm x) → (l.flatMap (fun n => (nodeText n).data.toList)).length = 5 * l.length := by
   intro l
   induction l with
   | nil => intro _; rfl
   | cons x xs ih => intro hx; rw [List.flatMap_cons, List.length_append, ih (fun y hy => hx y (List.mem_cons_of_mem _ hy)), nodeText_5 (hx x (List.mem_cons_self ..))]; simp [enc5]; omega
  have : (nodesText q (vtB q.length)).data.toList.length = (nodesText q (vtB q.length)).size := by rw [Array.length_toList]; rfl
  rw [← this, nodesText_toList, vtB_1 (by omega) (by omega), List.length_append, hlen q hs]
  simp
  omega
 ·rw [if_neg hp]
  exact Nat.zero_le _
theorem text1_ {b : List Int} {i : Int} (h : Int) (hc : Cu b i) : ∃ t x' y', Ev (fun k => spec_l01Text.f k b i h 1) (t, x', y') ∧ t.size = 1 ∧ Cu b x' := by
 obtain ⟨v, i1, h1, e1, v0, v1, c1⟩ := byte_ h hc
 refine ⟨?t6_, ?x6_, ?y6_, ?e6_, ?g6_, ?c6_⟩
 case e6_ =>
  unfold spec_l01Text.f
  simp only [show ¬ (1 : Int) > 5000 by omega, ↓reduceIte]
  refine Ev.succ ?_
  simp only [spec_l01Text.j0]
  refine Ev.succ ?_
  simp only [spec_l01Text.l0, show (0 : Int) < 1 by omega, ↓reduceIte, e1, Option.bind_some, List.length_nil, show 0 < 140737488355328 by omega, List.nil_append, (show wrap64 (0 + 1) = 1 from w64 (n := 0 + 1) (by omega) (by omega))]
  refine Ev.succ ?_
  simp only [spec_l01Text.l0, show ¬ (1 : Int) < 1 by omega, ↓reduceIte]
  exact Ev.now _
 case g6_ => rw [strOfNums_size]; rfl
 case c6_ => exact c1
theorem spoiltJ {b : List Int} (t : ByteArray) (ht : t.size ≤ 1000) (c : Bool) {x : Int} (y : Int) (hc : Cu b x) : ∃ t' x' y', Ev (fun k => spec_l02Spoilt.j0 k t c b x y) (t', x', y') ∧ t'.size ≤ 1048576 := by
 cases c with
 | false =>
  refine ⟨t, x, y, Ev.succ ?_, by omega⟩
  simp only [spec_l02Spoilt.j0, Bool.false_eq_true, ↓reduceIte]
  exact Ev.now _
 | true =>
  by_cases h0 : (t.size : Int) > 0
  ·obtain ⟨v, x1, y1, e1, c1, v0, v1, _⟩ := belowN y hc (t.size : Int)
   have hv := v1 (by omega)
   obtain ⟨s, x2, y2, e2, s1, c2⟩ := text1_ y1 c1
   have q1 : (t.extract 0 v.toNat).size ≤ t.size := by rw [ByteArray.size_extract]; omega
   have q2 : (t.extract (v + 1).toNat t.size).size ≤ t.size := by rw [ByteArray.size_extract]; omega
   have q3 : (t.extract 0 v.toNat ++ s).size ≤ t.size + 1 := by rw [ByteArray.size_append]; omega
   refine ⟨?t7_, ?x7_, ?y7_, Ev.succ ?e7_, ?g7_⟩
   case e7_ =>
    simp only [spec_l02Spoilt.j0, ↓reduceIte, h0, e1, Option.bind_some, v0, show v ≤ (t.size : Int) by omega]
    refine Ev.bind e2 ?_
    simp only [show (t.extract 0 v.toNat).size + s.size ≤ 9223372036854775807 by omega, ↓reduceIte, w64 (n := v + 1) (by omega) (by omega), show 0 ≤ v + 1 by omega, show v + 1 ≤ (t.size : Int) by omega, show (t.extract 0 v.toNat ++ s).size + (t.extract (v + 1).toNat t.size).size ≤ 9223372036854775807 by omega]
    exact Ev.now _
   case g7_ => rw [ByteArray.size_append]; omega
  ·refine ⟨t, x, y, Ev.succ ?_, by omega⟩
   simp only [spec_l02Spoilt.j0, ↓reduceIte, h0]
   exact Ev.now _
theorem spoilt_ {b : List Int} (t : ByteArray) (ht : t.size ≤ 1000) {x : Int} (y : Int) (hc : Cu b x) : ∃ t' x' y', Ev (fun k => spec_l02Spoilt.f k b x y t) (t', x', y') ∧ t'.size ≤ 1048576 := by
 obtain ⟨v, x1, y1, e1, c1, v0, v1, _⟩ := below_ y hc 12 (by omega)
 unfold spec_l02Spoilt.f
 simp only [e1, Option.bind_some]
 by_cases k0 : v = 0
 ·obtain ⟨s, x2, y2, e2, s1, c2⟩ := text1_ y1 c1
  refine ⟨t ++ s, x2, y2, ?_, by rw [ByteArray.size_append]; omega⟩
  simp only [k0, ↓reduceIte]
  refine Ev.bind e2 ?_
  simp only [show t.size + s.size ≤ 9223372036854775807 by omega, ↓reduceIte]
  exact Ev.now _
 by_cases k1 : v = 1
 ·obtain ⟨u, x2, y2, e2, c2, u0, u1, _⟩ := belowN y1 c1 ((t.size : Int) + 1)
  have hu := u1 (by omega)
  refine ⟨t.extract 0 u.toNat, x2, y2, ?_, by rw [ByteArray.size_extract]; omega⟩
  simp only [k1, ↓reduceIte, show ¬ (1 : Int) = 0 by omega, w64 (n := (t.size : Int) + 1) (by omega) (by omega), e2, Option.bind_some, u0, show u ≤ (t.size : Int) by omega]
  exact Ev.now _
 by_cases k2 : v = 2
 ·simp only [k2, ↓reduceIte, show ¬ (2 : Int) = 0 by omega, show ¬ (2 : Int) = 1 by omega]
  exact spoiltJ t ht _ y1 c1
 ·simp only [k0, k1, k2, ↓reduceIte]
  exact spoiltJ t ht _ y1 c1
theorem draw_Re (l : List Int) (hl : l.length ≤ 2097152) : ∃ t : ByteArray, Ev (fun k => spec_DrawReadPolicy.f k l) t ∧ t.size ≤ 1048576 := by
 obtain ⟨h, e⟩ := new_ l hl
 obtain ⟨p, x2, y2, e2, h2, c2⟩ := anyP_ (b := l) (i := 0) h ⟨by omega, by omega, hl⟩
 have hs := size_ok p (by omega)
 obtain ⟨v, x3, y3, e3, c3⟩ := once_ y2 c2 3 (by omega)
 unfold spec_DrawReadPolicy.f
 cases v with
 | true =>
  obtain ⟨t', x4, y4, e4, h4⟩ := spoilt_ _ hs y3 c3
  refine ⟨t', ?_, h4⟩
  refine Ev.bind e ?_
  refine Ev.bind e2 ?_
  refine Ev.bind (spec_PolicyText p (by omega)) ?_
  simp only [e3, Option.bind_some, ↓reduceIte]
  refine Ev.bind e4 ?_
  exact Ev.now _
 | false =>
  refine ⟨_, ?_, Nat.le_trans hs (by omega)⟩
  refine Ev.bind e ?_
  refine Ev.bind e2 ?_
  refine Ev.bind (spec_PolicyText p (by omega)) ?_
  simp only [e3, Option.bind_some, Bool.false_eq_true, ↓reduceIte]
  exact Ev.now _
end Q
end Go.Proofs.Ytnoklfpnmopkpaa
