/-
The program's least proof: steps that prove the fact, of just its least size as a tree, no more of them than that.
-/
import Derived.Test.YtljhfomkakhflaaKEQ12
namespace Go.Proofs.Ytljhfomkakhflaa
open Go.RowKit Go.Proofs.YtljhfomkakhflaaW.PrintWords Go.Proofs.YtljhfomkakhflaaW.PrintLast Go.Proofs.YtljhfomkakhflaaW.PrintMore Go.Proofs.Ytljhfomkakhflaa.PA
set_option linter.unusedVariables false
set_option linter.unusedSimpArgs false
namespace Q
theorem way_just {F : List Fc} (hR : Right F) (hn : F.Nodup) {c : Cr} (ok : cOk c = true) {f : Fc} {fr : List Int} (hw : Way F c f fr) : Just c f (fr.map (fc F)) := by
 rcases cOk_kind ok with k | k | k | k
 ·obtain ⟨e, rfl⟩ := (way1 k).1 hw
  exact ⟨by rw [e], .inl ⟨k, by rw [e], rfl⟩⟩
 ·obtain ⟨e, a, _, e1, rfl⟩ := (way2 hR k).1 hw
  exact ⟨e, .inr (.inl ⟨k, by simp only [List.map_cons, List.map_nil, fc, e1]⟩)⟩
 ·obtain ⟨e, a, b, ⟨_, e1⟩, ⟨_, e2⟩, rfl⟩ := (way3 hR k).1 hw
  refine ⟨e, .inr (.inr (.inl ⟨k, (fc F a).f1, ?_⟩))⟩
  simp only [List.map_cons, List.map_nil, fc, e2]
  rw [← e1]
 ·obtain ⟨e, a, b, ⟨_, e1⟩, ⟨_, e2⟩, rfl⟩ := (way4 hR hn k).1 hw
  exact ⟨e, .inr (.inr (.inr ⟨k, by simp only [List.map_cons, List.map_nil, fc, e1, e2]⟩))⟩
theorem heap_of {list : List Cr} {F : List Fc} {r o : List Int} (h : Szs list F r) (hF : F.length ≤ 144) (ho : Ord F r o) {goal : Int} {S : List St} (hu : Upto list F r o goal S) : Heap S (fun t => rd r (rd o (t : Int))) := by
 have hat : ∀ t : Nat, t < S.length → At F (rd o (t : Int)) := fun t ht => ho.at_ _ ⟨by omega, by have := hu.len; omega⟩
 refine ⟨hu.pos, by have := hu.len; omega, fun t ht => (hu.st t ht).back, fun t ht => (hu.st t ht).few, fun t ht => (h.pos (hat t ht)).1, fun t ht => h.small (hat t ht), fun t ht => ?_⟩
 rw [(hu.st t ht).size]
 refine congrArg (fun z => 1 + List.sum z) (List.map_congr_left fun k m => ?_)
 show rd r (rd o k) = rd r (rd o ((k.toNat : Nat) : Int))
 rw [Int.toNat_of_nonneg ((hu.st t ht).back k m).1]
theorem just_of {list : List Cr} {F : List Fc} {r o : List Int} (h : Szs list F r) {goal : Int} {S : List St} (hu : Upto list F r o goal S) (t : Nat) (ht : t < S.length) :
  (rdS S t).f0 ∈ list ∧ cOk (rdS S t).f0 = true ∧ Just (rdS S t).f0 (rdS S t).f1 ((rdS S t).f2.map fun k => (rdS S k).f1) := by
 have s := hu.st t ht
 refine ⟨s.word, s.ok, ?_⟩
 have := way_just h.right h.nod s.ok s.way
 rw [List.map_map] at this
 rw [show (rdS S t).f2.map (fun k => (rdS S k).f1) = (rdS S t).f2.map (fc F ∘ rd o) from List.map_congr_left fun k m => by
  obtain ⟨n, rfl⟩ := Int.eq_ofNat_of_zero_le (s.back k m).1
  exact (hu.st n (by have := (s.back _ m).2; omega)).fact]
 exact this
def Least (list : List Cr) (f : Fc) (v : Int) (K : List St) : Prop := ∃ V, Tree list K V ∧ 0 < K.length ∧ K.length ≤ 144 ∧ (rdS K ((K.length - 1 : Nat) : Int)).f1 = f ∧ rd V ((K.length - 1 : Nat) : Int) = v ∧ (K.length : Int) ≤ v
theorem impl_proof {list : List Cr} (hl : list.length ≤ 1048576) {r : List Int} (h : Szs list (factsF list) r) (he : Ev (fun k => impl_costs.f k list (factsF list)) r) {f : Fc} (hf : f ∈ factsF list) :
  ∃ K, Ev (fun k => impl_LeastProof.f k list f.f0.f0 f.f0.f1 f.f1) (K, true) ∧ Least list f (rd r (atF (factsF list) f.f0 f.f1)) K := by
 have hF := factsF_len list
 rcases atF_pos (factsF list) f.f0 f.f1 with ⟨_, hn⟩ | ⟨hat, hfe⟩
 ·exact absurd hf hn
 ·have hA : At (factsF list) (atF (factsF list) f.f0 f.f1) := hat
  have key : ∃ t, Ev (fun k => impl_LeastProof.f k list f.f0.f0 f.f0.f1 f.f1) t ∧ ∃ K, t = (K, true) ∧ Least list f (rd r (atF (factsF list) f.f0 f.f1)) K := by
   unfold impl_LeastProof.f
   refine Ev.exbind (impl_Facts list hl) ?_
   refine Ev.exbind (indexF (factsF list) f.f0.f0 f.f0.f1 f.f1 (by omega)) ?_
   have e : idxF (isFc f.f0.f0 f.f0.f1 f.f1) (factsF list) 0 = atF (factsF list) f.f0 f.f1 := rfl
   rw [e]
   simp only [show ¬ atF (factsF list) f.f0 f.f1 < 0 from by have := hA.1; omega, ↓reduceIte]
   refine Ev.exbind he ?_
   refine proof_l0 hl h hF hA _ (fun o S ho hu => ?_) (factsF list).length 0 rfl (Nat.zero_le _)
   obtain ⟨K, eK, V, k1, k2, k3, k4, k5, k6⟩ := kept_all (heap_of h hF ho hu) (just_of h hu)
   refine ⟨(K, true), Ev.bind eK (Ev.now _), K, rfl, V, k1, k2, k3, ?_, ?_, ?_⟩
   ·rw [k4, (hu.st (S.length - 1) (by have := hu.pos; omega)).fact, hu.last]
    exact hfe
   ·rw [k5]; show rd r (rd o ((S.length - 1 : Nat) : Int)) = _; rw [hu.last]
   ·have := k6; rw [hu.last] at this; exact this
  obtain ⟨t, e, K, rfl, hK⟩ := key
  exact ⟨K, e, hK⟩
theorem stp_rdS (l : List St) (i : Int) : stp l i = rdS l i := rfl
theorem isF_iff {x : Fc} {a b w : Int} : isF x a b w = true ↔ x = ⟨⟨a, b⟩, w⟩ := by
 obtain ⟨⟨x1, x2⟩, x3⟩ := x
 simp [isF, and_assoc]
theorem good_ok {list : List Cr} {K : List St} (hg : GoodAll list K) (t : Nat) (ht : t < K.length) : stepOkB K (t : Int) = true := by
 obtain ⟨g1, g2, g3, g4⟩ := hg t ht
 have e : rdS K (t : Int) = K[t] := rdS_ ht
 unfold stepOkB stepB
 rw [stp_rdS, e]
 have hc : credOkB K[t].f0.f0 K[t].f0.f1.f0 K[t].f0.f1.f1 K[t].f0.f2 K[t].f0.f3.f0 K[t].f0.f3.f1 K[t].f0.f4.f0 K[t].f0.f4.f1 K[t].f0.f5 K[t].f0.f6 = true := g2
 rw [hc]
 obtain ⟨j0, j⟩ := g4
 have h2 : K[t].f2.all (fun p => inB p 0 ((t : Int) - 1)) = true := List.all_eq_true.2 fun p m => by
  have := g3 p m
  exact decide_eq_true ⟨this.1, by omega⟩
 have h1 : inB (t : Int) 0 ((K.length : Int) - 1) = true := decide_eq_true ⟨by omega, by omega⟩
 rw [h1, h2, j0]
 simp only [beq_self_eq_true, Bool.true_and, Bool.and_true]
 unfold kindB
 rcases j with ⟨k, e1, e2⟩ | ⟨k, e2⟩ | ⟨k, x, e2⟩ | ⟨k, e2⟩
 ·rw [if_pos k, List.map_eq_nil_iff.1 e2, e1]
  simp
 ·obtain ⟨a, ea, eb⟩ : ∃ a, K[t].f2 = [a] ∧ (rdS K a).f1 = ⟨K[t].f0.f3, K[t].f1.f1⟩ := by
   match hf : K[t].f2, e2 with
   | [a], e2 => exact ⟨a, rfl, by simpa using e2⟩
   | [], e2 => simp at e2
   | a :: b :: l, e2 => simp at e2
  rw [if_neg (by omega), if_pos k, ea]
  simp only [List.length_cons, List.length_nil, beq_self_eq_true, Bool.true_and]
  refine isF_iff.2 ?_
  rw [show rd [a] 0 = a from rfl, stp_rdS, eb]
 ·obtain ⟨a, b, ea, eb, ec⟩ : ∃ a b, K[t].f2 = [a, b] ∧ (rdS K a).f1 = ⟨K[t].f0.f3, x⟩ ∧ (rdS K b).f1 = ⟨⟨x, K[t].f0.f4.f1⟩, K[t].f1.f1⟩ := by
   match hf : K[t].f2, e2 with
   | [a, b], e2 => exact ⟨a, b, rfl, by simpa using e2⟩
   | [], e2 => simp at e2
   | [a], e2 => simp at e2
   | a :: b :: c :: l, e2 => simp at e2
  rw [if_neg (by omega), if_neg (by omega), if_neg (by omega), ea]
  simp only [List.length_cons, List.length_nil, beq_self_eq_true, Bool.true_and]
  rw [show rd [a, b] 0 = a from rfl, show rd [a, b] 1 = b from rfl, stp_rdS, stp_rdS, eb, ec]
  simp [isF]
 ·obtain ⟨a, b, ea, eb, ec⟩ : ∃ a b, K[t].f2 = [a, b] ∧ (rdS K a).f1 = ⟨K[t].f0.f3, K[t].f1.f1⟩ ∧ (rdS K b).f1 = ⟨K[t].f0.f4, K[t].f1.f1⟩ := by
   match hf : K[t].f2, e2 with
   | [a, b], e2 => exact ⟨a, b, rfl, by simpa using e2⟩
   | [], e2 => simp at e2
   | [a], e2 => simp at e2
   | a :: b :: c :: l, e2 => simp at e2
  rw [if_neg (by omega), if_neg (by omega), if_pos k, ea]
  simp only [List.length_cons, List.length_nil, beq_self_eq_true, Bool.true_and]
  rw [show rd [a, b] 0 = a from rfl, show rd [a, b] 1 = b from rfl, stp_rdS, stp_rdS, eb, ec]
  simp [isF]
theorem okFrom_all {l : List St} (h : ∀ t : Nat, t < l.length → stepOkB l (t : Int) = true) (n : Nat) (hn : n ≤ l.length) : okFrom l n 0 = true := by
 unfold okFrom
 exact (allFrom_iff (n - 0) 0 rfl).2 fun j _ hj => h j (by omega)
theorem sOf_sum (D : List Int) : ∀ (pre : List Int) (a : Int), sOf D pre a = a + (pre.map (rd D)).sum := by
 intro pre
 induction pre with
 | nil => intro a; simp [sOf]
 | cons p l ih =>
  intro a
  have := ih (a + rd D p)
  simp only [sOf, List.foldl_cons, List.map_cons, List.sum_cons] at this ⊢
  rw [this]
  omega
theorem rd_take {V : List Int} {i : Nat} (hi : i ≤ V.length) {p : Int} (h0 : 0 ≤ p) (h1 : p < (i : Int)) : rd (V.take i) p = rd V p := by
 obtain ⟨n, rfl⟩ := Int.eq_ofNat_of_zero_le h0
 rw [rdI (by rw [List.length_take]; omega), rdI (show n < V.length by omega), List.getElem_take]
theorem size_tree {list : List Cr} {K : List St} {V : List Int} (h : Tree list K V) : ∀ (d i : Nat), K.length - i = d → i ≤ K.length → sizeR (K.drop i) (V.take i) = V := by
 intro d
 induction d with
 | zero =>
  intro i hd hi
  obtain rfl : i = K.length := by omega
  rw [List.drop_length, ← h.vlen, List.take_length]
  rfl
 | succ d ih =>
  intro i hd hi
  have hil : i < K.length := by omega
  have hiV : i < V.length := by rw [h.vlen]; exact hil
  rw [List.drop_eq_getElem_cons hil]
  have e : cap (sOf (V.take i) K[i].f2 1) = V[i] := by
   have hb := (h.good i hil).2.2.1
   have hs := h.sum i hil
   have hd := h.bd i hil
   rw [rdI hiV] at hs hd
   rw [sOf_sum, show K[i].f2.map (rd (V.take i)) = K[i].f2.map (rd V) from List.map_congr_left fun p m => rd_take (by omega) (hb p m).1 (hb p m).2]
   rw [rdS_ hil] at hs
   rw [← hs]
   unfold cap
   rw [if_neg (by omega)]
  show sizeR (K.drop (i + 1)) (V.take i ++ [cap (sOf (V.take i) K[i].f2 1)]) = V
  rw [e, ← List.take_succ_eq_append_getElem hiV]
  exact ih (i + 1) (by omega) (by omega)
theorem least_size {list : List Cr} {f : Fc} {v : Int} {K : List St} (h : Least list f v K) : sizeB K (wrap64 ((K.length : Int) - 1)) = v := by
 obtain ⟨V, ht, h1, h2, h3, h4, h5⟩ := h
 rw [w64 (by omega) (by omega)]
 unfold sizeB
 have hn : ((K.length : Int) - 1).toNat + 1 = K.length := by omega
 rw [hn, if_pos ⟨decide_eq_true ⟨by omega, by omega⟩, okFrom_all (fun t ht2 => good_ok ht.good t ht2) _ (Nat.le_refl _)⟩, List.take_length]
 have := size_tree ht K.length 0 rfl (Nat.zero_le _)
 rw [List.drop_zero, List.take_zero] at this
 rw [this, ← h4]
 congr 1
 omega
end Q
end Go.Proofs.Ytljhfomkakhflaa
