/-
What the program keeps of steps, second: it tells them anew by their new places; each weighs what it weighed.
-/
import Derived.Test.YtljhfomkakhflaaKEQ58
namespace Go.Proofs.Ytljhfomkakhflaa
open Go.RowKit Go.Proofs.YtljhfomkakhflaaW.PrintWords Go.Proofs.YtljhfomkakhflaaW.PrintLast Go.Proofs.YtljhfomkakhflaaW.PrintMore Go.Proofs.Ytljhfomkakhflaa.PA
set_option linter.unusedVariables false
set_option linter.unusedSimpArgs false
namespace Q
theorem rd_app {V : List Int} (x : Int) {k : Int} (h0 : 0 ≤ k) (h1 : k < (V.length : Int)) : rd (V ++ [x]) k = rd V k := by
 obtain ⟨n, rfl⟩ := Int.eq_ofNat_of_zero_le h0
 have hn : n < V.length := by omega
 rw [rdI (by simp; omega), rdI hn, List.getElem_append_left hn]
theorem rd_end (V : List Int) (x : Int) : rd (V ++ [x]) (V.length : Int) = x := by
 rw [rdI (by simp)]
 simp
theorem rdS_end (K : List St) (s : St) : rdS (K ++ [s]) (K.length : Int) = s := by
 rw [rdS_ (by simp)]
 simp
structure Tree (list : List Cr) (K : List St) (V : List Int) : Prop where
 good : GoodAll list K
 few : ∀ t : Nat, t < K.length → (rdS K t).f2.length ≤ 2
 vlen : V.length = K.length
 sum : ∀ t : Nat, t < K.length → rd V t = 1 + ((rdS K t).f2.map (rd V)).sum
 bd : ∀ t : Nat, t < K.length → 1 ≤ rd V t ∧ rd V t < 1000000
structure KStep (list : List Cr) (S : List St) (wt : Nat → Int) (W : List Int) (i : Nat) (P : List Int) (K : List St) (V : List Int) : Prop where
 tree : Tree list K V
 plen : P.length = S.length
 cnt : (K.length : Int) = sm i fun j => if rd W j = 1 then 1 else 0
 le : K.length ≤ i
 map : ∀ j : Nat, j < i → rd W j = 1 → 0 ≤ rd P j ∧ rd P j < (K.length : Int) ∧ (rdS K (rd P j)).f1 = (rdS S j).f1 ∧ rd V (rd P j) = wt j
 last : ∀ j : Nat, i = j + 1 → rd W j = 1 → rd P j + 1 = (K.length : Int)
theorem kept_l3 (W P : List Int) (K S : List St) (n i : Int) (c : Cr) (f : Fc) (fr : List Int) (hfr : ∀ a ∈ fr, 0 ≤ a ∧ a < (P.length : Int)) (hfl : fr.length ≤ 2) (hK : K.length ≤ 1000) (R : List St → Prop)
  (cont : ∃ t, Ev (fun k => impl_kept.l2 k W P (K ++ [⟨c, f, fr.map (rd P)⟩]) S n (wrap64 (i + 1))) t ∧ R t) :
  ∀ (d m : Nat), fr.length - m = d → m ≤ fr.length → ∃ t, Ev (fun k => impl_kept.l3 k W P K S n i fr fr.length m c.f0 c.f1.f0 c.f1.f1 c.f2 c.f3.f0 c.f3.f1 c.f4.f0 c.f4.f1 c.f5 c.f6 f.f0.f0 f.f0.f1 f.f1 ((fr.take m).map (rd P))) t ∧ R t := by
 intro d
 induction d with
 | zero =>
  intro m hn hm
  obtain rfl : m = fr.length := by omega
  refine Ev.exsucc ?_
  simp only [impl_kept.l3, Int.lt_irrefl, ↓reduceIte, List.take_length, show K.length < 1099511627776 by omega]
  exact cont
 | succ d ih =>
  intro m hn hm
  have hml : m < fr.length := by omega
  have ha := hfr fr[m] (List.getElem_mem hml)
  have hup := up_ (show m < 4611686018427387904 by omega)
  have htk : (fr.take (m + 1)).map (rd P) = (fr.take m).map (rd P) ++ [rd P fr[m]] := by rw [List.take_succ_eq_append_getElem hml, List.map_append, List.map_cons, List.map_nil]
  refine Ev.exsucc ?_
  simp only [impl_kept.l3, nat_lt, nat_0, hml, ↓reduceIte, rdI hml, ha.1, ha.2, hup, show ((fr.take m).map (rd P)).length < 17592186044416 by rw [List.length_map, List.length_take]; omega, ← htk]
  exact ih (m + 1) (by omega) (by omega)
theorem kept_l2 {list : List Cr} {S : List St} {wt : Nat → Int} (h : Heap S wt) (hg : ∀ t : Nat, t < S.length → (rdS S t).f0 ∈ list ∧ cOk (rdS S t).f0 = true ∧ Just (rdS S t).f0 (rdS S t).f1 ((rdS S t).f2.map fun k => (rdS S k).f1)) {W : List Int} (hk : KInv S wt 0 W) (R : List St → Prop)
  (fin : ∀ P K V, KStep list S wt W S.length P K V → R K) :
  ∀ (d i : Nat) (P : List Int) (K : List St) (V : List Int), S.length - i = d → i ≤ S.length → KStep list S wt W i P K V → ∃ t, Ev (fun k => impl_kept.l2 k W P K S S.length i) t ∧ R t := by
 intro d
 induction d with
 | zero =>
  intro i P K V hd hi hs
  obtain rfl : i = S.length := by omega
  refine Ev.exsucc ?_
  simp only [impl_kept.l2, Int.lt_irrefl, ↓reduceIte]
  exact ⟨K, Ev.now K, fin P K V hs⟩
 | succ d ih =>
  intro i P K V hd hi hs
  have hil : i < S.length := by omega
  have hl := h.len
  have hiW : i < W.length := by rw [hk.len]; exact hil
  have hiP : i < P.length := by rw [hs.plen]; exact hil
  have hup := up_ (show i < 4611686018427387904 by omega)
  refine Ev.exsucc ?_
  simp only [impl_kept.l2, nat_lt, nat_0, hil, hiW, ↓reduceIte, Int.toNat_natCast]
  rcases hk.bin i hil with e0 | e1
  ·simp only [e0, ↓reduceIte, hup]
   refine ih (i + 1) P K V (by omega) (by omega) ⟨hs.tree, hs.plen, ?_, by have := hs.le; omega, fun j hj h1 => ?_, fun j hj h1 => ?_⟩
   ·simp only [sm, e0]; have := hs.cnt; simpa using this
   ·by_cases e : j = i
    ·subst e; rw [e0] at h1; omega
    ·exact hs.map j (by omega) h1
   ·obtain rfl : j = i := by omega
    rw [e0] at h1; omega
  ·simp only [e1, show ¬ ((1 : Int) = 0) by omega, ↓reduceIte, hiP]
   have hset := fun (j : Int) (hj : 0 ≤ j) (hne : ¬ j = (i : Int)) => show rd (P.set i (K.length : Int)) j = rd P j from by
    obtain ⟨n, rfl⟩ := Int.eq_ofNat_of_zero_le hj
    rw [rd_setI hiP, if_neg (by omega)]
   have hseti : rd (P.set i (K.length : Int)) (i : Int) = (K.length : Int) := by rw [rd_setI hiP, if_pos rfl]
   have hb := h.back i hil
   have hcl := hk.closed i (Nat.zero_le _) hil e1
   have hle := hs.le
   have hfrm : (rdS S i).f2.map (rd (P.set i (K.length : Int))) = (rdS S i).f2.map (rd P) := List.map_congr_left fun k m => hset k (hb k m).1 (by have := hb k m; omega)
   have hone : ∀ k ∈ (rdS S i).f2, 0 ≤ rd P k ∧ rd P k < (K.length : Int) ∧ (rdS K (rd P k)).f1 = (rdS S k).f1 ∧ rd V (rd P k) = wt k.toNat := by
    intro k m
    obtain ⟨n, rfl⟩ := Int.eq_ofNat_of_zero_le (hb k m).1
    exact hs.map n (by have := (hb _ m).2; omega) (hcl _ m)
   obtain ⟨g1, g2, g3⟩ := hg i hil
   have hvl := hs.tree.vlen
   change ∃ r, Ev (fun k => impl_kept.l3 k W (P.set i (K.length : Int)) K S S.length i (rdS S i).f2 (rdS S i).f2.length ((0 : Nat) : Int) (rdS S i).f0.f0 (rdS S i).f0.f1.f0 (rdS S i).f0.f1.f1 (rdS S i).f0.f2 (rdS S i).f0.f3.f0 (rdS S i).f0.f3.f1 (rdS S i).f0.f4.f0 (rdS S i).f0.f4.f1 (rdS S i).f0.f5 (rdS S i).f0.f6 (rdS S i).f1.f0.f0 (rdS S i).f1.f0.f1 (rdS S i).f1.f1 (((rdS S i).f2.take 0).map (rd (P.set i (K.length : Int))))) r ∧ R r
   refine kept_l3 W (P.set i (K.length : Int)) K S S.length i (rdS S i).f0 (rdS S i).f1 (rdS S i).f2 (fun a m => by rw [List.length_set]; have := hb a m; omega) (h.few i hil) (by omega) R ?_ _ 0 rfl (Nat.zero_le _)
   rw [hup, hfrm]
   refine ih (i + 1) _ _ (V ++ [wt i]) (by omega) (by omega) ⟨⟨hs.tree.good.snoc ⟨g1, g2, fun k m => ?_, ?_⟩, fun t ht => ?_, by simp [hvl], fun t ht => ?_, fun t ht => ?_⟩, by rw [List.length_set]; exact hs.plen, ?_, by simp; omega, fun j hj h1 => ?_, fun j hj h1 => ?_⟩
   ·obtain ⟨a, ma, rfl⟩ := List.mem_map.1 m
    exact ⟨(hone a ma).1, (hone a ma).2.1⟩
   ·show Just (rdS S i).f0 (rdS S i).f1 (((rdS S i).f2.map (rd P)).map fun j => (rdS K j).f1)
    rw [List.map_map, show (rdS S i).f2.map ((fun j => (rdS K j).f1) ∘ rd P) = (rdS S i).f2.map fun k => (rdS S k).f1 from List.map_congr_left fun k m => (hone k m).2.2.1]
    exact g3
   ·by_cases e : t = K.length
    ·subst e; rw [rdS_end]; simpa using h.few i hil
    ·rw [rdS_pre _ (by omega) (by simp at ht; omega)]; exact hs.tree.few t (by simp at ht; omega)
   ·by_cases e : t = K.length
    ·subst e
     rw [rdS_end, ← hvl, rd_end]
     show wt i = 1 + (((rdS S i).f2.map (rd P)).map (rd (V ++ [wt i]))).sum
     rw [List.map_map, show (rdS S i).f2.map (rd (V ++ [wt i]) ∘ rd P) = (rdS S i).f2.map fun k => wt k.toNat from List.map_congr_left fun k m => by
      show rd (V ++ [wt i]) (rd P k) = wt k.toNat
      rw [rd_app _ (hone k m).1 (by rw [hvl]; exact (hone k m).2.1)]
      exact (hone k m).2.2.2]
     exact h.wts i hil
    ·have htK : t < K.length := by simp at ht; omega
     rw [rdS_pre _ (by omega) (by omega), rd_app _ (by omega) (by omega), hs.tree.sum t htK]
     congr 2
     refine List.map_congr_left fun k m => ?_
     have hb2 := (hs.tree.good t htK).2.2.1 k (by rw [← rdS_ htK]; exact m)
     exact (rd_app _ hb2.1 (by omega)).symm
   ·by_cases e : t = K.length
    ·subst e; rw [← hvl, rd_end]; exact ⟨h.wt1 i hil, h.wtS i hil⟩
    ·have htK : t < K.length := by simp at ht; omega
     rw [rd_app _ (by omega) (by omega)]; exact hs.tree.bd t htK
   ·simp only [sm, e1, ↓reduceIte, List.length_append, List.length_cons, List.length_nil]
    have := hs.cnt
    omega
   ·by_cases e : j = i
    ·subst e
     rw [hseti, rdS_end]
     exact ⟨by omega, by simp only [List.length_append, List.length_cons, List.length_nil]; omega, rfl, by rw [← hvl, rd_end]⟩
    ·obtain ⟨q1, q2, q3, q4⟩ := hs.map j (by omega) h1
     rw [hset j (by omega) (by omega)]
     exact ⟨q1, by simp; omega, by rw [rdS_pre _ q1 q2]; exact q3, by rw [rd_app _ q1 (by omega)]; exact q4⟩
   ·obtain rfl : j = i := by omega
    rw [hseti]
    simp
theorem kept_all {list : List Cr} {S : List St} {wt : Nat → Int} (h : Heap S wt) (hg : ∀ t : Nat, t < S.length → (rdS S t).f0 ∈ list ∧ cOk (rdS S t).f0 = true ∧ Just (rdS S t).f0 (rdS S t).f1 ((rdS S t).f2.map fun k => (rdS S k).f1)) :
  ∃ K, Ev (fun k => impl_kept.f k S) K ∧ ∃ V, Tree list K V ∧ 0 < K.length ∧ K.length ≤ 144 ∧ (rdS K ((K.length - 1 : Nat) : Int)).f1 = (rdS S ((S.length - 1 : Nat) : Int)).f1 ∧ rd V ((K.length - 1 : Nat) : Int) = wt (S.length - 1) ∧ (K.length : Int) ≤ wt (S.length - 1) := by
 refine keep_start h (fun K => ∃ V, Tree list K V ∧ 0 < K.length ∧ K.length ≤ 144 ∧ (rdS K ((K.length - 1 : Nat) : Int)).f1 = (rdS S ((S.length - 1 : Nat) : Int)).f1 ∧ rd V ((K.length - 1 : Nat) : Int) = wt (S.length - 1) ∧ (K.length : Int) ≤ wt (S.length - 1)) fun W hk => ?_
 refine kept_l2 h hg hk _ (fun P K V hs => ?_) _ 0 _ [] [] rfl (Nat.zero_le _) ⟨⟨GoodAll.nil list, fun t ht => by simp at ht, rfl, fun t ht => by simp at ht, fun t ht => by simp at ht⟩, by simp, rfl, Nat.le_refl _, fun j hj => absurd hj (Nat.not_lt_zero _), fun j hj => by omega⟩
 have hp := h.pos
 have hl := h.len
 have m := hs.map (S.length - 1) (by omega) hk.top
 have e := hs.last (S.length - 1) (by omega) hk.top
 have hle := hs.le
 have e2 : rd P ((S.length - 1 : Nat) : Int) = ((K.length - 1 : Nat) : Int) := by omega
 rw [e2] at m
 refine ⟨V, hs.tree, by omega, by omega, m.2.2.1, m.2.2.2, ?_⟩
 have w := hk.wgt
 have c := hs.cnt
 rw [c]
 unfold cost at w
 rw [sm_eq (f := fun j : Nat => if rd W j = 1 then (1 : Int) else 0) (g := fun j : Nat => if rd W j = 1 then (if 0 ≤ j then 1 else wt j) else 0) S.length fun j _ => by simp]
 exact w
end Q
end Go.Proofs.Ytljhfomkakhflaa
