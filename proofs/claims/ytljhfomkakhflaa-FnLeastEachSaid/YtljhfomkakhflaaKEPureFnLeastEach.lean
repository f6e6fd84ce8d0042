/-
Each fact of drawn words has a least proof of the size that is told of it; what is told by name has one of one step.
-/
import Derived.Test.YtljhfomkakhflaaKEPAx26
import Derived.Test.YtljhfomkakhflaaKEQ60
namespace Go.Proofs.Ytljhfomkakhflaa
open Go.RowKit Go.Proofs.YtljhfomkakhflaaW.PrintWords Go.Proofs.YtljhfomkakhflaaW.PrintLast Go.Proofs.YtljhfomkakhflaaW.PrintMore Go.Proofs.Ytljhfomkakhflaa.PA
set_option linter.unusedVariables false
set_option linter.unusedSimpArgs false
namespace Q
def nam (f : Fc) (c : Cr) : Bool := decide (c.f0 = 1 ∧ (⟨c.f1, c.f2⟩ : Fc) = f)
theorem size_one {list : List Cr} {F : List Fc} {r : List Int} (h : Szs list F r) (hm : MemOk list) {i : Int} (hi : At F i) : list.any (nam (fc F i)) = (rd r i == 1) := by
 rw [Bool.eq_iff_iff, List.any_eq_true]
 simp only [nam, decide_eq_true_eq, beq_iff_eq]
 constructor
 ·rintro ⟨c, hc, k, e⟩
  have hl := h.le_way hc (hm c hc k) hi ((way1 k).2 ⟨e.symm, rfl⟩)
  have : szB r [] 1 = 1 := by simp [szB, capI]
  have := (h.pos hi).1
  omega
 ·intro e
  obtain ⟨c, hc, ok, fr, hw, hfa, _, hs⟩ := h.plain hi
  have hp : ∀ a ∈ fr, 1 ≤ rd r a := fun a m => (h.pos (hfa a m)).1
  have hz : fr = [] := by
   cases fr with
   | nil => rfl
   | cons a l =>
    have := sum_ge (a :: l) hp a (by simp)
    have := hp a (by simp)
    omega
  subst hz
  refine ⟨c, hc, ?_⟩
  rcases cOk_kind ok with k | k | k | k
  ·exact ⟨k, ((way1 k).1 hw).1.symm⟩
  ·obtain ⟨_, a, _, _, e2⟩ := (way2 h.right k).1 hw; cases e2
  ·obtain ⟨_, a, b, _, _, e2⟩ := (way3 h.right k).1 hw; cases e2
  ·obtain ⟨_, a, b, _, _, e2⟩ := (way4 h.right h.nod k).1 hw; cases e2
theorem fc_ne (x : Fc) : ((!(x.f0.f0 == x.f0.f0) || (!(x.f0.f1 == x.f0.f1))) || (!(x.f1 == x.f1))) = false := by simp
theorem each_l1 (list : List Cr) (hl : list.length ≤ 1000) (C : List S47) (F : List Fc) (i : Int) (hi : 0 ≤ i ∧ i < (C.length : Int)) (f : Fc) (hsz : list.any (nam f) = (((rd_T47 C i).f1) == 1)) (cont : Ev (fun k => laws_FnLeastEach.l0 k list C F (wrap64 (i + 1))) true) :
  ∀ (d m : Nat) (b : Bool), list.length - m = d → m ≤ list.length → (b || (list.drop m).any (nam f)) = list.any (nam f) → Ev (fun k => laws_FnLeastEach.l1 k list C F i b m f.f0.f0 f.f0.f1 f.f1) true := by
 intro d
 induction d with
 | zero =>
  intro m b hd hm hb
  obtain rfl : m = list.length := by omega
  rw [List.drop_length, List.any_nil, Bool.or_false] at hb
  refine Ev.succ ?_
  simp only [laws_FnLeastEach.l1, Int.lt_irrefl, ↓reduceIte, hi.1, hi.2]
  rw [hb, hsz]
  simp only [bne_self_eq_false, Bool.false_eq_true, ↓reduceIte]
  exact cont
 | succ d ih =>
  intro m b hd hm hb
  have hml : m < list.length := by omega
  obtain ⟨c, hc⟩ : ∃ c, list[m] = c := ⟨_, rfl⟩
  rw [List.drop_eq_getElem_cons hml, List.any_cons, hc] at hb
  have hup := up_ (show m < 4611686018427387904 by omega)
  refine Ev.succ ?_
  simp only [laws_FnLeastEach.l1, nat_lt, nat_0, hml, ↓reduceIte, rd_T35, getD_ _ hml, getDn_ _ hml, hc, hup]
  cases b with
  | true =>
   simp only [↓reduceIte]
   exact ih (m + 1) true (by omega) (by omega) (by rw [← hb]; simp)
  | false =>
   simp only [Bool.false_eq_true, ↓reduceIte]
   have go : ∀ b2 : Bool, b2 = nam f c → Ev (fun k => laws_FnLeastEach.l1 k list C F i b2 ((m + 1 : Nat) : Int) f.f0.f0 f.f0.f1 f.f1) true := fun b2 e => ih (m + 1) b2 (by omega) (by omega) (by rw [e, ← hb]; simp)
   obtain ⟨⟨fa, fb⟩, fw⟩ := f
   by_cases k : c.f0 = 1
   ·simp only [k, ↓reduceIte]
    by_cases k2 : (c.f1.f0 == fa && c.f1.f1 == fb) = true
    ·simp only [k2, ↓reduceIte]
     refine go _ ?_
     simp only [Bool.and_eq_true, beq_iff_eq] at k2
     have e1 : c.f1 = ⟨fa, fb⟩ := by rw [← k2.1, ← k2.2]
     simp only [nam, e1, k, true_and, beqI]
     congr 1
     simp
    ·simp only [k2, Bool.false_eq_true, ↓reduceIte]
     refine go false ?_
     simp only [nam]
     symm
     refine decide_eq_false fun z => k2 ?_
     have := z.2
     injection this with z1 z2
     rw [z1]
     simp
   ·simp only [k, ↓reduceIte]
    exact go false (by simp only [nam]; symm; exact decide_eq_false fun z => k z.1)
end Q
theorem Pure.FnLeastEach : ∀ (x0 : List Int), All U8 x0 → ∃ k, laws_FnLeastEach.f k x0 = some true := by
 intro x0 _
 refine Q.Ev.get ?_
 unfold laws_FnLeastEach.f laws_big.f
 by_cases hb : (x0.length : Int) > 1048576
 ·simp only [Option.bind_some, hb, decide_true, ↓reduceIte]
  exact Ev.now _
 simp only [Option.bind_some, hb, decide_false, Bool.false_eq_true, ↓reduceIte]
 obtain ⟨list, el, hl9, hsix, hmem⟩ := Q.draw_Words6 x0 (by omega)
 refine Ev.bind el ?_
 have hl : list.length ≤ 1048576 := by omega
 obtain ⟨r, er, hg, hfx⟩ := Q.impl_cost list hl
 have h : Q.Szs list (Q.factsF list) r := ⟨Q.factsF_right list, Q.factsF_nodup list, hg, hfx, Q.reach_all list, hsix⟩
 have hF := Q.factsF_len list
 refine Ev.bind (Q.impl_Costs list hl r hg.1 er) ?_
 refine Ev.bind (Q.spec_Facts list hl) ?_
 have hC := Q.costL_len (Q.factsF list) r
 have key := Q.Ev.up0 (Q.factsF list).length (fun i k => laws_FnLeastEach.l0 k list (Q.costL (Q.factsF list) r) (Q.factsF list) i) (fun _ => true) (fun i hi ih => ?_) ?_ 0 (Nat.zero_le _)
 ·exact key
 ·have hA : Q.At (Q.factsF list) (i : Int) := ⟨by omega, by omega⟩
  have hci : rd_T47 (Q.costL (Q.factsF list) r) (i : Int) = ⟨Q.fc (Q.factsF list) i, rd r i⟩ := by
   unfold rd_T47
   rw [Q.getD_ _ (by rw [hC]; exact hi)]
   simp [Q.costL, Q.fc]
  have hfm : Q.fc (Q.factsF list) (i : Int) ∈ Q.factsF list := by
   rw [Q.fc, Q.rdF hi]; exact List.getElem_mem hi
  obtain ⟨K, eK, hK⟩ := Q.impl_proof hl h er hfm
  have hat : Q.atF (Q.factsF list) (Q.fc (Q.factsF list) i).f0 (Q.fc (Q.factsF list) i).f1 = (i : Int) := Q.atF_at h.nod hA rfl
  rw [hat] at hK
  have hKl : K.length ≤ 144 := by obtain ⟨V, _, _, q, _⟩ := hK; exact q
  have hKv : (K.length : Int) ≤ rd r i := by obtain ⟨V, _, _, _, _, _, q⟩ := hK; exact q
  have hfew : ∀ x ∈ K, x.f2.length ≤ 1048576 := by
   obtain ⟨V, ht, _⟩ := hK
   intro x hx
   obtain ⟨t, htl, rfl⟩ := List.mem_iff_getElem.1 hx
   have := ht.few t htl
   rw [Q.rdS_ htl] at this
   omega
  refine Q.Ev.succ ?_
  simp only [laws_FnLeastEach.l0, Q.nat_lt, Q.nat_0, hC, hi, ↓reduceIte, hci]
  refine Ev.bind eK ?_
  simp only [↓reduceIte]
  rw [show rd_T28 (Q.factsF list) (i : Int) = Q.fc (Q.factsF list) i from rfl, Q.fc_ne]
  simp only [Bool.false_eq_true, ↓reduceIte]
  refine Ev.bind (Q.spec_TreeSize K (by omega) hfew _) ?_
  rw [Q.least_size hK]
  simp only [↓reduceIte, show ¬ rd r (i : Int) < (K.length : Int) by omega, decide_false]
  refine Q.Ev.succ ?_
  simp only [laws_FnLeastEach.j1, Bool.false_eq_true, ↓reduceIte]
  refine Q.each_l1 list (by omega) _ _ i ⟨by omega, by rw [hC]; omega⟩ (Q.fc (Q.factsF list) i) (by rw [hci]; exact Q.size_one h hmem hA) ?_ _ 0 false rfl (Nat.zero_le _) (by simp)
  rw [Q.up_ (show i < 4611686018427387904 by omega)]
  exact ih
 ·refine Q.Ev.succ ?_
  simp only [laws_FnLeastEach.l0, hC, Int.lt_irrefl, ↓reduceIte, beq_self_eq_true]
  exact Ev.now _
end Go.Proofs.Ytljhfomkakhflaa
