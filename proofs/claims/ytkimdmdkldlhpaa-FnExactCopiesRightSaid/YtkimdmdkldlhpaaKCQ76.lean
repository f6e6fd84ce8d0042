/-
Merged, of the reference and of the program: both put all items of the two lists together.
-/
import Derived.Test.YtkimdmdkldlhpaaKCQ75
namespace Go.Proofs.Ytkimdmdkldlhpaa
open Go.RowKit Go.Proofs.YtkimdmdkldlhpaaW.PrintWords Go.Proofs.YtkimdmdkldlhpaaW.PrintLast Go.Proofs.YtkimdmdkldlhpaaW.PrintMore Go.Proofs.Ytkimdmdkldlhpaa.PA
set_option linter.unusedVariables false
set_option linter.unusedSimpArgs false
namespace Q
theorem one_in (l : List Itm) (x : Itm) (hl : l.length ≤ 3000000) : ∀ (d i : Nat) (acc : List Itm), l.length - i = d → i ≤ l.length → acc.length + (l.length - i) ≤ 4000000 → (∀ y ∈ l.drop i, y.f0 ≠ x.f0) →
  Ev (fun k => spec_l12One.l0 k l acc true (i : Int) x.f0 x.f1) (acc ++ l.drop i) := by
 intro d
 induction d with
 | zero =>
  intro i acc h1 h2 h3 h4
  obtain rfl : i = l.length := by omega
  refine Ev.succ ?_
  simp only [spec_l12One.l0, nat_lt, Nat.lt_irrefl, ↓reduceIte, List.drop_length, List.append_nil]
  exact Ev.now _
 | succ d ih =>
  intro i acc h1 h2 h3 h4
  have hi : i < l.length := by omega
  rw [List.drop_eq_getElem_cons hi] at h4 ⊢
  have hn := h4 l[i] List.mem_cons_self
  have hn2 : ¬ l[i].f0.toList = x.f0.toList := fun e => hn (toList_inj e)
  refine Ev.succ ?_
  simp only [spec_l12One.l0, nat_lt, nat_0, hi, ↓reduceIte, rdItm l i hi, hn2, eta_i, show acc.length < 5864062014805 by omega, up_ (show i < 4611686018427387904 by omega)]
  have := ih (i + 1) (acc ++ [l[i]]) (by omega) (by omega) (by simp; omega) (fun y hy => h4 y (List.mem_cons_of_mem _ hy))
  rw [List.append_assoc] at this
  exact this
theorem one_out (l : List Itm) (x : Itm) (hs : SS l) (hl : l.length ≤ 3000000) : ∀ (d i : Nat) (acc : List Itm), l.length - i = d → i ≤ l.length → acc.length + (l.length - i) ≤ 3000000 →
  Ev (fun k => spec_l12One.l0 k l acc false (i : Int) x.f0 x.f1) (acc ++ insI x (l.drop i)) := by
 intro d
 induction d with
 | zero =>
  intro i acc h1 h2 h3
  obtain rfl : i = l.length := by omega
  refine Ev.succ ?_
  simp only [spec_l12One.l0, nat_lt, Nat.lt_irrefl, ↓reduceIte, List.drop_length, Bool.false_eq_true, show acc.length < 5864062014805 by omega, eta_i, insI]
  exact Ev.now _
 | succ d ih =>
  intro i acc h1 h2 h3
  have hi : i < l.length := by omega
  have hd := List.drop_eq_getElem_cons hi
  have hs2 : SS (l.drop i) := List.Pairwise.drop hs
  rw [hd] at hs2 ⊢
  unfold SS at hs2
  rw [List.pairwise_cons] at hs2
  refine Ev.succ ?_
  by_cases e : l[i].f0 = x.f0
  ·have e2 : l[i].f0.toList = x.f0.toList := by rw [e]
   have no : ∀ y ∈ l.drop (i + 1), y.f0 ≠ x.f0 := fun y hy q => less_ne (hs2.1 y hy) (e.trans q.symm)
   simp only [spec_l12One.l0, nat_lt, nat_0, hi, ↓reduceIte, rdItm l i hi, e2, show acc.length < 5864062014805 by omega, up_ (show i < 4611686018427387904 by omega)]
   rw [insI, if_pos e]
   cases hg : l[i].f1
   ·have := one_in l x hl d (i + 1) (acc ++ [⟨l[i].f0, x.f1⟩]) (by omega) (by omega) (by simp; omega) no
    rw [List.append_assoc] at this
    simp only [Bool.false_eq_true, ↓reduceIte, Bool.false_or]
    exact this
   ·have := one_in l x hl d (i + 1) (acc ++ [⟨l[i].f0, true⟩]) (by omega) (by omega) (by simp; omega) no
    rw [List.append_assoc] at this
    simp only [↓reduceIte, Bool.true_or]
    exact this
  ·have e2 : ¬ l[i].f0.toList = x.f0.toList := fun q => e (toList_inj q)
   by_cases g : lessB x.f0 l[i].f0 = true
   ·have g2 : Op.bytesLess x.f0.toList l[i].f0.toList = true := g
    have no : ∀ y ∈ l.drop (i + 1), y.f0 ≠ x.f0 := fun y hy q => less_ne (less_trans g (hs2.1 y hy)) q.symm
    simp only [spec_l12One.l0, nat_lt, nat_0, hi, ↓reduceIte, rdItm l i hi, e2, g2, eta_i, Bool.false_eq_true, show acc.length < 5864062014805 by omega, Option.bind_some, List.length_append, List.length_cons, List.length_nil, show acc.length + (0 + 1) < 5864062014805 by omega, up_ (show i < 4611686018427387904 by omega)]
    rw [insI, if_neg e, if_pos g]
    have := one_in l x hl d (i + 1) (acc ++ [x] ++ [l[i]]) (by omega) (by omega) (by simp; omega) no
    rw [show acc ++ [x] ++ [l[i]] ++ l.drop (i + 1) = acc ++ x :: l[i] :: l.drop (i + 1) by simp] at this
    exact this
   ·have g2 : ¬ Op.bytesLess x.f0.toList l[i].f0.toList = true := g
    simp only [spec_l12One.l0, nat_lt, nat_0, hi, ↓reduceIte, rdItm l i hi, e2, g2, eta_i, Bool.false_eq_true, show acc.length < 5864062014805 by omega, up_ (show i < 4611686018427387904 by omega)]
    rw [insI, if_neg e, if_neg g]
    have := ih (i + 1) (acc ++ [l[i]]) (by omega) (by omega) (by simp; omega)
    rw [List.append_assoc] at this
    exact this
theorem spec_One (l : List Itm) (x : Itm) (hs : SS l) (hl : l.length ≤ 3000000) : Ev (fun k => spec_l12One.f k l x.f0 x.f1) (insI x l) := by
 have := one_out l x hs hl l.length 0 [] (by omega) (by omega) (by simp; omega)
 simpa [spec_l12One.f] using this
theorem spec_put1 (b : List Itm) (hbl : b.length ≤ 3000000) : ∀ (d i : Nat) (acc : List Itm), b.length - i = d → i ≤ b.length → acc.length + (b.length - i) ≤ 3000000 → SS acc →
  Ev (fun k => spec_Merged.l1 k b acc (i : Int)) (putAll acc (b.drop i)) := by
 intro d
 induction d with
 | zero =>
  intro i acc h1 h2 h3 h4
  obtain rfl : i = b.length := by omega
  refine Ev.succ ?_
  simp only [spec_Merged.l1, nat_lt, Nat.lt_irrefl, ↓reduceIte, List.drop_length]
  exact Ev.now _
 | succ d ih =>
  intro i acc h1 h2 h3 h4
  have hi : i < b.length := by omega
  refine Ev.succ ?_
  simp only [spec_Merged.l1, nat_lt, nat_0, hi, ↓reduceIte, rdItm b i hi, up_ (show i < 4611686018427387904 by omega)]
  rw [List.drop_eq_getElem_cons hi]
  have hl := ins_len b[i] acc
  exact Ev.bind (spec_One acc b[i] h4 (by omega)) (ih (i + 1) (insI b[i] acc) (by omega) (by omega) (by omega) (ins_ss _ _ h4))
theorem spec_put0 (a b : List Itm) (hb : a.length + b.length ≤ 3000000) : ∀ (d i : Nat) (acc : List Itm), a.length - i = d → i ≤ a.length → acc.length + (a.length - i) ≤ a.length → SS acc →
  Ev (fun k => spec_Merged.l0 k a b acc (i : Int)) (putAll acc (a.drop i ++ b)) := by
 intro d
 induction d with
 | zero =>
  intro i acc h1 h2 h3 h4
  obtain rfl : i = a.length := by omega
  refine Ev.succ ?_
  simp only [spec_Merged.l0, nat_lt, Nat.lt_irrefl, ↓reduceIte, List.drop_length, List.nil_append]
  exact spec_put1 b (by omega) b.length 0 acc (by omega) (by omega) (by omega) h4
 | succ d ih =>
  intro i acc h1 h2 h3 h4
  have hi : i < a.length := by omega
  refine Ev.succ ?_
  simp only [spec_Merged.l0, nat_lt, nat_0, hi, ↓reduceIte, rdItm a i hi, up_ (show i < 4611686018427387904 by omega)]
  rw [List.drop_eq_getElem_cons hi]
  have hl := ins_len a[i] acc
  exact Ev.bind (spec_One acc a[i] h4 (by omega)) (ih (i + 1) (insI a[i] acc) (by omega) (by omega) (by omega) (ins_ss _ _ h4))
theorem spec_Merge (a b : List Itm) (hb : a.length + b.length ≤ 3000000) : Ev (fun k => spec_Merged.f k a b) (putAll [] (a ++ b)) :=
 spec_put0 a b hb a.length 0 [] (by omega) (by omega) (by simp) .nil
def rankI (l : List Itm) (x : Itm) : Int := ((l.countP fun z => lessB z.f0 x.f0 : Nat) : Int)
theorem count_lt {α : Type} (p q : α → Bool) : ∀ (l : List α) (x : α), (∀ y, p y = true → q y = true) → x ∈ l → p x = false → q x = true → l.countP p < l.countP q
 | [], x, _, hx, _, _ => absurd hx (List.not_mem_nil)
 | y :: l, x, h, hx, h1, h2 => by
  have mono : l.countP p ≤ l.countP q := List.countP_mono_left fun z _ => h z
  rw [List.countP_cons, List.countP_cons]
  rcases List.mem_cons.1 hx with rfl | hx
  ·rw [h1, h2]; simp; omega
  ·have := count_lt p q l x h hx h1 h2
   cases hp : p y
   ·simp; split <;> omega
   ·rw [h y hp]; simp; omega
theorem rank_lt (l : List Itm) (x y : Itm) (hx : x ∈ l) : rankI l x < rankI l y ↔ lessB x.f0 y.f0 = true := by
 unfold rankI
 constructor
 ·intro h
  rcases less_tri x.f0 y.f0 with q | q | q
  ·exact q
  ·rw [q] at h; omega
  ·have : (l.countP fun z => lessB z.f0 y.f0) ≤ (l.countP fun z => lessB z.f0 x.f0) := List.countP_mono_left fun z _ hz => less_trans hz q
   omega
 ·intro h
  have := count_lt (fun z : Itm => lessB z.f0 x.f0) (fun z => lessB z.f0 y.f0) l x (fun z hz => less_trans hz h) hx (less_irr _) h
  omega
theorem sort_items (l : List Itm) (hl : l.length ≤ 1100000) : ∃ ys, Ev (fun k => impl_Item_52.f k l clo53) ys ∧ ys.Perm l ∧ ys.Pairwise fun x y => lessB y.f0 x.f0 = false := by
 obtain ⟨ys, h1, h2, h3⟩ := sorted_byI (rankI l) clo53 l ⟨hl, fun s t hs ht => by
  rw [gt_atI hs, gt_atI ht]
  exact ⟨_, rfl, by rw [rank_lt l _ _ (List.getElem_mem hs), cmp_less]; unfold lessB; rw [toList_eq, toList_eq]⟩⟩
 refine ⟨ys, h1, h2.prm, List.pairwise_iff_getElem.2 fun i j hi hj hij => ?_⟩
 have hlen := h2.len
 have := h3 i j (Nat.zero_le _) hij (by omega)
 rw [gt_atI hi, gt_atI hj] at this
 cases q : lessB ys[j].f0 ys[i].f0
 ·rfl
 ·have := (rank_lt l ys[j] ys[i] (h2.prm.mem_iff.1 (List.getElem_mem hj))).2 q
  omega
theorem set_last (p : List Itm) (a b : Itm) : (p ++ [a]).set p.length b = p ++ [b] := by rw [List.set_append, if_neg (by omega), Nat.sub_self]; rfl
theorem join_l0 (ys : List Itm) (hp : ys.Pairwise fun x y => lessB y.f0 x.f0 = false) (hl : ys.length ≤ 3000000) : ∀ (d i : Nat) (acc : List Itm), ys.length - i = d → i ≤ ys.length → acc.length ≤ i → SS acc → (∀ o ∈ acc, ∀ y ∈ ys.drop i, lessB y.f0 o.f0 = false) →
  Ev (fun k => impl_Merged.l0 k acc ys (ys.length : Int) (i : Int)) (putAll acc (ys.drop i)) := by
 intro d
 induction d with
 | zero =>
  intro i acc h1 h2 h3 h4 h5
  obtain rfl : i = ys.length := by omega
  refine Ev.succ ?_
  simp only [impl_Merged.l0, nat_lt, Nat.lt_irrefl, ↓reduceIte, List.drop_length]
  exact Ev.now _
 | succ d ih =>
  intro i acc h1 h2 h3 h4 h5
  have hi : i < ys.length := by omega
  have hd := List.drop_eq_getElem_cons hi
  have hp2 : (ys.drop i).Pairwise fun x y => lessB y.f0 x.f0 = false := List.Pairwise.drop hp
  rw [hd, List.pairwise_cons] at hp2
  rw [hd] at h5 ⊢
  have nx : ∀ acc', acc' = insI ys[i] acc → Ev (fun k => impl_Merged.l0 k acc' ys (ys.length : Int) ((i + 1 : Nat) : Int)) (putAll (insI ys[i] acc) (ys.drop (i + 1))) := by
   rintro _ rfl
   have hle := ins_len ys[i] acc
   refine ih (i + 1) _ (by omega) (by omega) (by omega) (ins_ss _ _ h4) (fun o ho y hy => ?_)
   rcases (ins_text ys[i] acc o.f0).1 ⟨o, ho, rfl⟩ with q | ⟨v, hv, q⟩
   ·rw [← q]; exact hp2.1 y hy
   ·rw [← q]; exact h5 v hv y (List.mem_cons_of_mem _ hy)
  refine Ev.succ ?_
  simp only [impl_Merged.l0, nat_lt, nat_0, hi, ↓reduceIte, rdItm ys i hi, up_ (show i < 4611686018427387904 by omega), eta_i]
  rcases List.eq_nil_or_concat acc with rfl | ⟨p, a, hpa⟩
  ·simp only [List.length_nil, show ¬ ((0 : Nat) : Int) > 0 by omega, ↓reduceIte, show (0 : Nat) < 5864062014805 by omega]
   exact nx _ rfl
  ·rw [List.concat_eq_append] at hpa
   subst hpa
   have hn : ((p ++ [a]).length : Int) = (p.length : Int) + 1 := by simp
   have hl2 : (p ++ [a]).length ≤ i := h3
   have hpl : p.length + 1 ≤ i := by simpa using h3
   have hw : wrap64 ((p.length : Int) + 1 - 1) = (p.length : Int) := by rw [w64 (by omega) (by omega)]; omega
   have hr : rd_T52 (p ++ [a]) (p.length : Int) = a := by rw [rdItm _ _ (by simp)]; simp
   have hss : ∀ o ∈ p, lessB o.f0 a.f0 = true := fun o ho => (List.pairwise_append.1 h4).2.2 o ho a (by simp)
   simp only [hn, hw, hr, show (p.length : Int) + 1 > 0 by omega, nat_0, show (p.length : Int) < (p.length : Int) + 1 by omega, ↓reduceIte, Int.toNat_natCast]
   have hle := h5 a (by simp) ys[i] List.mem_cons_self
   by_cases e : a.f0 = ys[i].f0
   ·have e2 : a.f0.toList = ys[i].f0.toList := by rw [e]
    have hi2 : insI ys[i] (p ++ [a]) = p ++ [⟨a.f0, a.f1 || ys[i].f1⟩] := by
     rw [ins_end _ _ _ (fun o ho => by rw [← e]; exact hss o ho), insI, if_pos e]
    simp only [e2, ↓reduceIte, set_last]
    cases hg : a.f1
    ·simp only [Bool.false_eq_true, ↓reduceIte]
     exact nx _ (by rw [hi2, hg, Bool.false_or])
    ·simp only [↓reduceIte]
     exact nx _ (by rw [hi2, hg, Bool.true_or])
   ·have e2 : ¬ a.f0.toList = ys[i].f0.toList := fun q => e (toList_inj q)
    have hlt : lessB a.f0 ys[i].f0 = true := by
     rcases not_less hle with q | q
     ·exact q
     ·exact absurd q e
    have hi2 : insI ys[i] (p ++ [a]) = p ++ [a] ++ [ys[i]] := by
     have := ins_end ys[i] (p ++ [a]) [] (fun o ho => by
      rcases List.mem_append.1 ho with ho | ho
      ·exact less_trans (hss o ho) hlt
      ·rw [List.mem_singleton.1 ho]; exact hlt)
     rwa [List.append_nil] at this
    simp only [e2, ↓reduceIte, show (p ++ [a]).length < 5864062014805 by omega]
    exact nx _ hi2.symm
theorem impl_Merge (a b : List Itm) (hb : a.length + b.length ≤ 1100000) : Ev (fun k => impl_Merged.f k a b) (putAll [] (a ++ b)) := by
 obtain ⟨ys, h1, h2, h3⟩ := sort_items (a ++ b) (by simpa using hb)
 unfold impl_Merged.f impl_Item_42.f
 simp only [show a.length < 5864062014805 by omega, show a.length + b.length < 5864062014805 by omega, ↓reduceIte, Option.bind_some]
 have hlen := h2.length_eq
 refine Ev.bind h1 ?_
 rw [← hlen, ← putAll_perm h2]
 exact join_l0 ys h3 (by rw [hlen]; simp; omega) ys.length 0 [] (by omega) (by omega) (by simp) .nil (fun o ho => absurd ho (List.not_mem_nil))
end Q
end Go.Proofs.Ytkimdmdkldlhpaa
