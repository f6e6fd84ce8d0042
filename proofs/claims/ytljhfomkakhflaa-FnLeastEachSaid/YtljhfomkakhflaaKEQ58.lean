/-
What the program keeps of steps: those that the last one leans on, and what these lean on; there are no more of them than the tree has places.
-/
import Derived.Test.YtljhfomkakhflaaKEQ57
namespace Go.Proofs.Ytljhfomkakhflaa
open Go.RowKit Go.Proofs.YtljhfomkakhflaaW.PrintWords Go.Proofs.YtljhfomkakhflaaW.PrintLast Go.Proofs.YtljhfomkakhflaaW.PrintMore Go.Proofs.Ytljhfomkakhflaa.PA
set_option linter.unusedVariables false
set_option linter.unusedSimpArgs false
namespace Q
def sm : Nat → (Nat → Int) → Int
 | 0, _ => 0
 | n + 1, f => sm n f + f n
theorem sm_one {f g : Nat → Int} {k : Nat} {d : Int} : ∀ n, (∀ j, j < n → j ≠ k → f j ≤ g j) → f k ≤ g k + d → sm n f ≤ sm n g + (if k < n then d else 0) := by
 intro n
 induction n with
 | zero => intro _ _; simp [sm]
 | succ n ih =>
  intro h1 h2
  have i := ih (fun j hj hk => h1 j (by omega) hk) h2
  simp only [sm]
  by_cases e : k = n
  ·subst e
   rw [if_neg (Nat.lt_irrefl _)] at i
   rw [if_pos (by omega)]
   omega
  ·have := h1 n (by omega) (fun x => e x.symm)
   by_cases c : k < n
   ·rw [if_pos c] at i; rw [if_pos (by omega)]; omega
   ·rw [if_neg c] at i; rw [if_neg (by omega)]; omega
theorem sm_eq {f g : Nat → Int} : ∀ n, (∀ j, j < n → f j = g j) → sm n f = sm n g := by
 intro n
 induction n with
 | zero => intro _; rfl
 | succ n ih => intro h; simp only [sm]; rw [ih fun j hj => h j (by omega), h n (by omega)]
theorem sm_zero {f : Nat → Int} : ∀ n, (∀ j, j < n → f j = 0) → sm n f = 0 := by
 intro n
 induction n with
 | zero => intro _; rfl
 | succ n ih => intro h; simp only [sm]; rw [ih fun j hj => h j (by omega), h n (by omega)]; rfl
section
variable (S : List St) (wt : Nat → Int)
structure Heap : Prop where
 pos : 0 < S.length
 len : S.length ≤ 144
 back : ∀ t, t < S.length → ∀ k ∈ (rdS S t).f2, 0 ≤ k ∧ k < (t : Int)
 few : ∀ t, t < S.length → (rdS S t).f2.length ≤ 2
 wt1 : ∀ t, t < S.length → 1 ≤ wt t
 wtS : ∀ t, t < S.length → wt t < 1000000
 wts : ∀ t, t < S.length → wt t = 1 + ((rdS S t).f2.map fun k => wt k.toNat).sum
def cost (e : Nat) (W : List Int) : Int := sm S.length fun j => if rd W j = 1 then (if e ≤ j then 1 else wt j) else 0
structure KInv (e : Nat) (W : List Int) : Prop where
 len : W.length = S.length
 bin : ∀ j : Nat, j < S.length → rd W j = 0 ∨ rd W j = 1
 closed : ∀ j : Nat, e ≤ j → j < S.length → rd W j = 1 → ∀ k ∈ (rdS S j).f2, rd W k = 1
 top : rd W ((S.length - 1 : Nat) : Int) = 1
 wgt : cost S wt e W ≤ wt (S.length - 1)
end
section
variable {S : List St} {wt : Nat → Int}
theorem rd_set1 {W : List Int} {i : Nat} (hi : i < W.length) (j : Int) (hj : 0 ≤ j) : rd (W.set i 1) j = if j = i then 1 else rd W j := by
 obtain ⟨n, rfl⟩ := Int.eq_ofNat_of_zero_le hj
 rw [rd_setI hi]
 by_cases e : n = i
 ·rw [if_pos e, if_pos (by omega)]
 ·rw [if_neg e, if_neg (by omega)]
set_option maxHeartbeats 4000000 in
theorem keep_l1 (h : Heap S wt) (i : Nat) (hi : i < S.length) (R : List St → Prop) (fr : List Int) (hfr : (rdS S i).f2 = fr) (next : ∀ W, KInv S wt i W → ∃ t, Ev (fun k => impl_kept.l0 k S W ((i : Int) - 1)) t ∧ R t) :
  ∀ (n m : Nat) (W : List Int), fr.length - m = n → m ≤ fr.length → W.length = S.length → (∀ j : Nat, j < S.length → rd W j = 0 ∨ rd W j = 1) → (∀ j : Nat, i + 1 ≤ j → j < S.length → rd W j = 1 → ∀ k ∈ (rdS S j).f2, rd W k = 1) → rd W ((S.length - 1 : Nat) : Int) = 1 →
  (∀ k ∈ fr.take m, rd W k = 1) → cost S wt i W + ((fr.drop m).map fun k => wt k.toNat).sum ≤ wt (S.length - 1) →
  ∃ t, Ev (fun k => impl_kept.l1 k S W (i : Int) fr fr.length (m : Int)) t ∧ R t := by
 intro n
 induction n with
 | zero =>
  intro m W hn hm w1 w2 w3 w4 w5 w6
  obtain rfl : m = fr.length := by omega
  have hl := h.len
  refine Ev.exsucc ?_
  simp only [impl_kept.l1, Int.lt_irrefl, ↓reduceIte, down_ (show i < 4611686018427387904 by omega)]
  rw [List.take_length] at w5
  rw [List.drop_length, List.map_nil, List.sum_nil] at w6
  refine next W ⟨w1, w2, fun j j1 j2 j3 => ?_, w4, by omega⟩
  by_cases e : j = i
  ·subst e; rw [hfr]; exact w5
  ·exact w3 j (by omega) j2 j3
 | succ n ih =>
  intro m W hn hm w1 w2 w3 w4 w5 w6
  have hml : m < fr.length := by omega
  have g1 : fr.length - (m + 1) = n := by omega
  have g2 : m + 1 ≤ fr.length := by omega
  have hl := h.len
  obtain ⟨k, hk⟩ : ∃ k, fr[m] = k := ⟨_, rfl⟩
  have hkb := h.back i hi k (hfr ▸ hk ▸ List.getElem_mem hml)
  obtain ⟨k', hk'⟩ := Int.eq_ofNat_of_zero_le hkb.1
  have hkl : k' < W.length := by omega
  have hup := up_ (show m < 4611686018427387904 by have := h.few i hi; rw [hfr] at this; omega)
  have htk : fr.take (m + 1) = fr.take m ++ [k] := by rw [List.take_succ_eq_append_getElem hml, hk]
  have hdr : fr.drop m = k :: fr.drop (m + 1) := by rw [List.drop_eq_getElem_cons hml, hk]
  rw [hdr, List.map_cons, List.sum_cons] at w6
  have hwk := h.wt1 k' (by omega)
  refine Ev.exsucc ?_
  simp only [impl_kept.l1, nat_lt, nat_0, hml, ↓reduceIte, rdI hml, hk, hup]
  simp only [hkb.1, show k < (W.length : Int) by omega, ↓reduceIte]
  have hki : ¬ i ≤ k' := by omega
  have hkS : k' < S.length := by omega
  have ek : k.toNat = k' := by omega
  have hne : ∀ j : Nat, i + 1 ≤ j → ¬ ((j : Int) = (k' : Int)) := fun j hj => by omega
  have hrs := fun (j : Int) (hj : 0 ≤ j) => rd_set1 hkl j hj
  have z1 : (W.set k' 1).length = S.length := by rw [List.length_set]; exact w1
  have z2 : ∀ j : Nat, j < S.length → rd (W.set k' 1) j = 0 ∨ rd (W.set k' 1) j = 1 := fun j hj => by
   rw [hrs j (Int.natCast_nonneg j)]
   split
   ·exact .inr rfl
   ·exact w2 j hj
  have z3 : ∀ j : Nat, i + 1 ≤ j → j < S.length → rd (W.set k' 1) j = 1 → ∀ x ∈ (rdS S j).f2, rd (W.set k' 1) x = 1 := fun j j1 j2 j3 x hx => by
   have hx0 := (h.back j j2 x hx).1
   rw [hrs x hx0]
   split
   ·rfl
   ·rw [hrs j (Int.natCast_nonneg j), if_neg (show ¬ ((j : Int) = (k' : Int)) from hne j (by omega))] at j3
    exact w3 j j1 j2 j3 x hx
  have z4 : rd (W.set k' 1) ((S.length - 1 : Nat) : Int) = 1 := by
   rw [hrs _ (Int.natCast_nonneg _)]
   split
   ·rfl
   ·exact w4
  have z5 : ∀ x ∈ fr.take (m + 1), rd (W.set k' 1) x = 1 := fun x hx => by
   have hx0 : 0 ≤ x := (h.back i hi x (hfr ▸ List.mem_of_mem_take hx)).1
   rw [hrs x hx0]
   split
   ·rfl
   ·rename_i hn2
    rw [htk, List.mem_append, List.mem_singleton] at hx
    rcases hx with hx | rfl
    ·exact w5 x hx
    ·exact absurd hk' hn2
  have z6 : cost S wt i (W.set k' 1) ≤ cost S wt i W + wt k' := by
   have := sm_one (f := fun j : Nat => if rd (W.set k' 1) j = 1 then (if i ≤ j then 1 else wt j) else 0) (g := fun j : Nat => if rd W j = 1 then (if i ≤ j then 1 else wt j) else 0) (k := k') (d := wt k') S.length (fun j hj hn2 => by
     show (if rd (W.set k' 1) j = 1 then (if i ≤ j then 1 else wt j) else 0) ≤ (if rd W j = 1 then (if i ≤ j then 1 else wt j) else 0)
     rw [hrs j (Int.natCast_nonneg j), if_neg (show ¬ ((j : Int) = (k' : Int)) from fun e => hn2 (Int.ofNat.inj e))]
     exact Int.le_refl _) (by
     show (if rd (W.set k' 1) k' = 1 then (if i ≤ k' then 1 else wt k') else 0) ≤ (if rd W k' = 1 then (if i ≤ k' then 1 else wt k') else 0) + wt k'
     rw [hrs k' (Int.natCast_nonneg _), if_pos (show ((k' : Nat) : Int) = (k' : Int) from rfl), if_pos (show (1 : Int) = 1 from rfl), if_neg hki]
     by_cases q : rd W ((k' : Nat) : Int) = 1
     ·rw [if_pos q]; omega
     ·rw [if_neg q]; omega)
   rwa [if_pos hkS] at this
  have key := ih (m + 1) (W.set k' 1) g1 g2 z1 z2 z3 z4 z5 (by rw [ek] at w6; omega)
  rw [hk', Int.toNat_natCast]
  exact key
theorem keep_mark (h : Heap S wt) (i : Nat) (hi : i < S.length) (R : List St → Prop) (next : ∀ W, KInv S wt i W → ∃ t, Ev (fun k => impl_kept.l0 k S W ((i : Int) - 1)) t ∧ R t) (W : List Int) (hW : W.length = S.length) (hk : KInv S wt (i + 1) (W.set i 1)) :
  ∃ t, Ev (fun k => impl_kept.j1 k S W (i : Int) false) t ∧ R t := by
 have hl := h.len
 have hiW : i < W.length := by omega
 have hii : rd (W.set i 1) (i : Int) = 1 := by rw [rd_set1 hiW _ (by omega), if_pos rfl]
 refine Ev.exsucc ?_
 simp only [impl_kept.j1, Bool.false_eq_true, ↓reduceIte, nat_lt, nat_0, hiW, hi, Int.toNat_natCast]
 refine keep_l1 h i hi R _ rfl next _ 0 (W.set i 1) rfl (Nat.zero_le _) hk.len hk.bin hk.closed hk.top (fun x hx => by simp at hx) ?_
 rw [List.drop_zero]
 have := sm_one (f := fun j : Nat => if rd (W.set i 1) j = 1 then (if i ≤ j then 1 else wt j) else 0) (g := fun j : Nat => if rd (W.set i 1) j = 1 then (if i + 1 ≤ j then 1 else wt j) else 0) (k := i) (d := 1 - wt i) S.length (fun j hj hne => by
   (try simp only)
   by_cases e : i ≤ j
   ·rw [if_pos e, if_pos (show i + 1 ≤ j by omega)]; exact Int.le_refl _
   ·rw [if_neg e, if_neg (show ¬ i + 1 ≤ j by omega)]; exact Int.le_refl _) (by
   (try simp only)
   rw [hii, if_pos (show (1 : Int) = 1 from rfl), if_pos (show (1 : Int) = 1 from rfl), if_pos (Nat.le_refl i), if_neg (show ¬ i + 1 ≤ i by omega)]
   omega)
 rw [if_pos hi] at this
 have w := hk.wgt
 have e := h.wts i hi
 unfold cost at w ⊢
 omega
theorem keep_l0 (h : Heap S wt) (R : List St → Prop) (fin : ∀ W, KInv S wt 0 W → ∃ t, Ev (fun k => impl_kept.l2 k W (List.replicate S.length 0) [] S S.length 0) t ∧ R t) :
  ∀ (e : Nat) (W : List Int), e < S.length → KInv S wt e W → ∃ t, Ev (fun k => impl_kept.l0 k S W ((e : Int) - 1)) t ∧ R t := by
 intro e
 induction e with
 | zero =>
  intro W he hk
  have hl := h.len
  refine Ev.exsucc ?_
  simp only [impl_kept.l0]
  rw [show ((0 : Nat) : Int) - 1 = -1 from rfl]
  simp only [show ¬ ((-1 : Int) ≥ 0) by omega, ↓reduceIte, nat_0, Int.toNat_natCast, show S.length ≤ 35184372088832 by omega]
  exact fin W hk
 | succ i ih =>
  intro W he hk
  have hl := h.len
  have hiW : i < W.length := by rw [hk.len]; omega
  refine Ev.exsucc ?_
  simp only [impl_kept.l0]
  rw [show (((i + 1 : Nat) : Int) - 1) = (i : Int) by omega, w64 (n := (S.length : Int) - 1) (by omega) (by omega)]
  simp only [show (i : Int) ≥ 0 by omega, show (i : Int) < (S.length : Int) - 1 by omega, show (0 : Int) ≤ (i : Int) by omega, show (i : Int) < (W.length : Int) by omega, ↓reduceIte]
  rcases hk.bin i (by omega) with e0 | e1
  ·rw [e0]
   simp only [beq_self_eq_true]
   refine Ev.exsucc ?_
   simp only [impl_kept.j1, ↓reduceIte, down_ (show i < 4611686018427387904 by omega)]
   refine ih W (by omega) ⟨hk.len, hk.bin, fun j j1 j2 j3 => ?_, hk.top, ?_⟩
   ·by_cases e : j = i
    ·subst e; rw [e0] at j3; omega
    ·exact hk.closed j (by omega) j2 j3
   ·have w := hk.wgt
    unfold cost at w ⊢
    rw [sm_eq (f := fun j : Nat => if rd W j = 1 then (if i ≤ j then 1 else wt j) else 0) (g := fun j : Nat => if rd W j = 1 then (if i + 1 ≤ j then 1 else wt j) else 0) S.length fun j hj => by
     (try simp only)
     by_cases e : j = i
     ·subst e; rw [e0]; rfl
     ·by_cases c : i ≤ j
      ·rw [if_pos c, if_pos (show i + 1 ≤ j by omega)]
      ·rw [if_neg c, if_neg (show ¬ i + 1 ≤ j by omega)]]
    exact w
  ·rw [e1]
   simp only [show ((1 : Int) == 0) = false by decide]
   have hs : W.set i 1 = W := by
    refine List.ext_getElem (by simp) fun j h1 h2 => ?_
    rw [List.getElem_set]
    split
    ·rename_i hij; subst hij; rw [rdI hiW] at e1; exact e1.symm
    ·rfl
   exact keep_mark h i (by omega) R (fun W' hW' => ih W' (by omega) hW') W hk.len (by rw [hs]; exact hk)
theorem keep_start (h : Heap S wt) (R : List St → Prop) (fin : ∀ W, KInv S wt 0 W → ∃ t, Ev (fun k => impl_kept.l2 k W (List.replicate S.length 0) [] S S.length 0) t ∧ R t) :
  ∃ t, Ev (fun k => impl_kept.f k S) t ∧ R t := by
 have hl := h.len
 have hp := h.pos
 unfold impl_kept.f
 simp only [nat_0, ↓reduceIte, Int.toNat_natCast, show S.length ≤ 35184372088832 by omega]
 rw [w64 (n := (S.length : Int) - 1) (by omega) (by omega)]
 obtain ⟨m, hm⟩ : ∃ m, S.length = m + 1 := ⟨S.length - 1, by omega⟩
 have hz : ∀ j : Nat, rd (List.replicate S.length (0 : Int)) (j : Int) = 0 := by
  intro j
  show (List.replicate S.length (0 : Int)).getD (j : Int).toNat 0 = 0
  rw [List.getD_eq_getElem?_getD, List.getElem?_replicate]
  split <;> rfl
 have hlz : (List.replicate S.length (0 : Int)).length = S.length := by simp
 have hs := fun (j : Int) (hj : 0 ≤ j) => rd_set1 (W := List.replicate S.length (0 : Int)) (i := m) (by omega) j hj
 refine Ev.exsucc ?_
 simp only [impl_kept.l0]
 rw [w64 (n := (S.length : Int) - 1) (by omega) (by omega), show (S.length : Int) - 1 = (m : Int) by omega]
 simp only [show (m : Int) ≥ 0 by omega, Int.lt_irrefl, ↓reduceIte]
 refine keep_mark h m (by omega) R (fun W hW => keep_l0 h R fin m W (by omega) hW) _ hlz ⟨by rw [List.length_set]; exact hlz, fun j hj => ?_, fun j j1 j2 => by omega, ?_, ?_⟩
 ·rw [hs j (by omega)]
  split
  ·exact .inr rfl
  ·exact .inl (hz j)
 ·rw [hs _ (by omega), if_pos (by omega)]
 ·have := sm_one (f := fun j : Nat => if rd ((List.replicate S.length (0 : Int)).set m 1) j = 1 then (if m + 1 ≤ j then 1 else wt j) else 0) (g := fun _ => 0) (k := m) (d := wt m) S.length (fun j hj hne => by
    (try simp only)
    rw [hs j (by omega), if_neg (show ¬ ((j : Int) = (m : Int)) by omega), hz j]
    simp) (by
    (try simp only)
    rw [hs m (by omega), if_pos (show ((m : Nat) : Int) = (m : Int) from rfl), if_pos (show (1 : Int) = 1 from rfl), if_neg (show ¬ m + 1 ≤ m by omega)]
    omega)
  rw [sm_zero (f := fun _ => 0) S.length fun _ _ => rfl, if_pos (by omega)] at this
  unfold cost
  rw [show S.length - 1 = m by omega]
  omega
end
end Q
end Go.Proofs.Ytljhfomkakhflaa
