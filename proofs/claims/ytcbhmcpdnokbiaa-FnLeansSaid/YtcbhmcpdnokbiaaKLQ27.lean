/-
The program's MembersOf, LeansOn, ReachRoles and NeededFor: what the reference's are.
-/
import Derived.Test.YtcbhmcpdnokbiaaKLPAx13
import Derived.Test.YtcbhmcpdnokbiaaKLQ26
namespace Go.Proofs.Ytcbhmcpdnokbiaa
open Go.RowKit Go.Proofs.YtcbhmcpdnokbiaaW.PrintWords Go.Proofs.YtcbhmcpdnokbiaaW.PrintLast Go.Proofs.YtcbhmcpdnokbiaaW.PrintMore Go.Proofs.Ytcbhmcpdnokbiaa.PA
set_option linter.unusedVariables false
set_option linter.unusedSimpArgs false
namespace Q
theorem impl_Members (list : List Cr) (hl : list.length ≤ 1048576) (a b : Int) : Ev (fun k => impl_MembersOf.f k list a b) (memS (factsF list) ⟨a, b⟩) := by
 unfold impl_MembersOf.f
 refine Ev.bind (impl_Facts list hl) ?_
 have hF := factsF_len list
 rw [← memL_sort (factsF_nodup list) (factsF_right list)]
 unfold memL
 generalize factsF list = F at hF
 have key := Ev.up F.length (fun i (s : List Int) k => impl_MembersOf.l0 k s F F.length i a b) (fun i s => (s ++ ((F.drop i).filter fun x => decide (x.f0 = (⟨a, b⟩ : Rl))).map (·.f1)).mergeSort fun x y => decide (x ≤ y)) (fun i s => s.length ≤ i) ?_ ?_ 0 [] (Nat.zero_le _) (by simp)
 ·exact key
 ·intro i s hi hs ih
  refine Ev.succ ?_
  simp only [impl_MembersOf.l0, nat_lt, nat_0, hi, ↓reduceIte, rd_T29, getD_ _ hi, getDn_ _ hi, up_ (show i < 4611686018427387904 by omega), roleB, show s.length < 17592186044416 by omega]
  rw [List.drop_eq_getElem_cons hi, List.filter_cons]
  by_cases h1 : F[i].f0 = ⟨a, b⟩
  ·simp only [h1, decide_true, ↓reduceIte, List.map_cons]
   have h2 := ih (s ++ [F[i].f1]) (by simp; omega)
   rw [List.append_assoc, List.singleton_append] at h2
   exact h2
  ·simp only [h1, decide_false, Bool.false_eq_true, ↓reduceIte]
   exact ih s (by omega)
 ·intro s hs
  refine Ev.succ ?_
  simp only [impl_MembersOf.l0, nat_lt, Nat.lt_irrefl, ↓reduceIte, List.drop_length, List.filter_nil, List.map_nil, List.append_nil]
  unfold slices_Sort_int_int.f
  rw [if_pos (by omega)]
  simp only [Option.bind_some]
  exact Ev.now _
theorem impl_Leads (list : List Cr) (hl : list.length ≤ 1048576) (c : Cr) : Ev (fun k => impl_leads.f k list c.f0 c.f1.f0 c.f1.f1 c.f2 c.f3.f0 c.f3.f1 c.f4.f0 c.f4.f1 c.f5 c.f6) (leadsL (factsF list) c) := by
 unfold impl_leads.f leadsL
 refine Ev.ite (fun h2 => ?_) (fun h2 => ?_)
 ·rw [if_pos h2]
  exact Ev.now _
 ·rw [if_neg h2]
  refine Ev.ite (fun h3 => ?_) (fun h3 => ?_)
  ·rw [if_pos h3]
   refine Ev.bind (impl_Members list hl _ _) ?_
   have hm := memS_len (factsF list) ⟨c.f3.f0, c.f3.f1⟩
   change Ev _ ([c.f3] ++ (memS (factsF list) ⟨c.f3.f0, c.f3.f1⟩).map fun w => (⟨w, c.f4.f1⟩ : Rl))
   generalize memS (factsF list) ⟨c.f3.f0, c.f3.f1⟩ = M at hm
   have key := Ev.up M.length (fun i (s : List Rl) k => impl_leads.l0 k s M M.length i c.f0 c.f1.f0 c.f1.f1 c.f2 c.f3.f0 c.f3.f1 c.f4.f0 c.f4.f1 c.f5 c.f6) (fun i s => s ++ (M.drop i).map fun w => (⟨w, c.f4.f1⟩ : Rl)) (fun i s => s.length ≤ i + 1) ?_ ?_ 0 [c.f3] (Nat.zero_le _) (by simp)
   ·exact key
   ·intro i s hi hs ih
    refine Ev.succ ?_
    simp only [impl_leads.l0, nat_lt, nat_0, hi, ↓reduceIte, rdI hi, up_ (show i < 4611686018427387904 by omega), show s.length < 8796093022208 by omega]
    rw [List.drop_eq_getElem_cons hi, List.map_cons]
    have h2 := ih (s ++ [⟨M[i], c.f4.f1⟩]) (by simp; omega)
    rw [List.append_assoc, List.singleton_append] at h2
    exact h2
   ·intro s _
    refine Ev.succ ?_
    simp only [impl_leads.l0, nat_lt, Nat.lt_irrefl, ↓reduceIte, List.drop_length, List.map_nil, List.append_nil]
    exact Ev.now _
  ·rw [if_neg h3]
   refine Ev.ite (fun h4 => ?_) (fun h4 => ?_)
   ·rw [if_pos h4]
    exact Ev.now _
   ·rw [if_neg h4]
    exact Ev.now _
theorem leadsL_ok {F : List Fc} {c : Cr} (ok : cOk c = true) : ∀ x ∈ leadsL F c, roleOkB x.f0 x.f1 = true := by
 obtain ⟨_, _, h3, h4, hn⟩ := cOk_bounds ok
 intro x hx
 unfold leadsL at hx
 split at hx
 ·rw [List.mem_singleton.1 hx]; exact h3
 ·split at hx
  ·rcases List.mem_cons.1 hx with rfl | hx
   ·exact h3
   ·obtain ⟨w, hw, rfl⟩ := List.mem_map.1 hx
    have := (mem_upTo 6).1 (List.mem_filter.1 hw).1
    exact roleOk_iff.2 (by simp only; omega)
  ·split at hx
   ·rcases List.mem_cons.1 hx with rfl | hx
    ·exact h3
    ·rw [List.mem_singleton.1 hx]; exact h4
   ·simp at hx
theorem impl_l1 (list : List Cr) (i : Nat) (a b : Int) (L : List Rl) (hL : L.length ≤ 7) (hLr : ∀ x ∈ L, roleOkB x.f0 x.f1 = true) (R : List Rl → List Rl)
  (hn : ∀ s, GoodR s → Ev (fun k => impl_LeansOn.l0 k list s list list.length (wrap64 ((i : Int) + 1)) a b) (R s)) (s0 : List Rl) (hs0 : GoodR s0) :
  Ev (fun k => impl_LeansOn.l1 k list s0 list list.length i L L.length 0 a b) (R (L.foldl addR s0)) := by
 have key := Ev.up L.length (fun j (s : List Rl) k => impl_LeansOn.l1 k list s list list.length i L L.length j a b) (fun j s => R ((L.drop j).foldl addR s)) (fun j s => GoodR s) ?_ ?_ 0 s0 (Nat.zero_le _) hs0
 ·exact key
 ·intro j s hj hs ih
  have hlen := hs.len
  refine Ev.succ ?_
  simp only [impl_LeansOn.l1, nat_lt, nat_0, hj, ↓reduceIte, rd_T27, getD_ _ hj, getDn_ _ hj, up_ (show j < 4611686018427387904 by omega), show s.length < 8796093022208 by omega]
  refine Ev.bind (containsRole s _ _ (by omega)) ?_
  rw [List.drop_eq_getElem_cons hj, List.foldl_cons]
  have hr := ih (addR s L[j]) (hs.add (hLr _ (List.getElem_mem hj)))
  by_cases hc : s.any (isRole L[j].f0 L[j].f1) = true
  ·have e : addR s L[j] = s := by unfold addR; rw [if_pos hc]
   rw [e] at hr ⊢
   simp only [hc, ↓reduceIte]
   exact hr
  ·have e : addR s L[j] = s ++ [L[j]] := by unfold addR; rw [if_neg hc]
   rw [e] at hr ⊢
   simp only [hc, Bool.false_eq_true, ↓reduceIte]
   exact hr
 ·intro s hs
  refine Ev.succ ?_
  simp only [impl_LeansOn.l1, nat_lt, Nat.lt_irrefl, ↓reduceIte, List.drop_length, List.foldl_nil]
  exact hn s hs
theorem roleCn (x : Cr) (a b : Int) : (!(x.f1.f0 == a) || !(x.f1.f1 == b)) = !decide (x.f1 = ⟨a, b⟩) := by
 rw [← Bool.not_and]
 congr 1
 obtain ⟨_, ⟨p, q⟩, _⟩ := x
 rw [Bool.eq_iff_iff]
 simp
theorem impl_Leans (list : List Cr) (hl : list.length ≤ 1048576) (a b : Int) : Ev (fun k => impl_LeansOn.f k list a b) (leansD list ⟨a, b⟩) := by
 unfold impl_LeansOn.f leansD
 have key := Ev.up list.length (fun i (s : List Rl) k => impl_LeansOn.l0 k list s list list.length i a b) (fun i s => (list.drop i).foldl (leanC (factsF list) ⟨a, b⟩) s) (fun i s => GoodR s) ?_ ?_ 0 [] (Nat.zero_le _) GoodR.nil
 ·exact key
 ·intro i s hi hs ih
  rw [List.drop_eq_getElem_cons hi, List.foldl_cons, leanC_fold]
  obtain ⟨c, hc⟩ : ∃ c, list[i] = c := ⟨_, rfl⟩
  have hup := up_ (show i < 4611686018427387904 by omega)
  refine Ev.succ ?_
  simp only [impl_LeansOn.l0, nat_lt, nat_0, hi, ↓reduceIte, rd_T46, getD_ _ hi, getDn_ _ hi, hc, roleCn]
  refine Ev.bind (impl_CredOk _ _ _ _ _ _ _ _ _ _) ?_
  change Ev (fun k => if cOk c = true then _ else _) _
  have skip : Ev (fun k => impl_LeansOn.j1 k list s list list.length i true a b c.f0 c.f1.f0 c.f1.f1 c.f2 c.f3.f0 c.f3.f1 c.f4.f0 c.f4.f1 c.f5 c.f6) ((list.drop (i + 1)).foldl (leanC (factsF list) ⟨a, b⟩) s) := by
   refine Ev.succ ?_
   simp only [impl_LeansOn.j1, ↓reduceIte, hup]
   exact ih s hs
  cases ok : cOk c
  ·simp only [Bool.false_eq_true, ↓reduceIte, false_and]
   exact skip
  ·simp only [↓reduceIte, true_and]
   by_cases hr : c.f1 = ⟨a, b⟩
   ·rw [if_pos hr]
    simp only [hr, decide_true, Bool.not_true]
    refine Ev.succ ?_
    simp only [impl_LeansOn.j1, Bool.false_eq_true, ↓reduceIte]
    have hld := impl_Leads list hl c
    rw [hr] at hld
    refine Ev.bind hld ?_
    exact impl_l1 list i a b (leadsL (factsF list) c) (leadsL_len _ _) (leadsL_ok ok) (fun s => (list.drop (i + 1)).foldl (leanC (factsF list) ⟨a, b⟩) s) (fun s' hs' => by rw [hup]; exact ih s' hs') s hs
   ·rw [if_neg hr]
    simp only [hr, decide_false, Bool.not_false]
    exact skip
 ·intro s _
  refine Ev.succ ?_
  simp only [impl_LeansOn.l0, nat_lt, Nat.lt_irrefl, ↓reduceIte, List.drop_length, List.foldl_nil]
  exact Ev.now _
theorem impl_adds (list : List Cr) (out : List Rl) (i : Nat) (hi : i < 4611686018427387904) (R : List Rl) (more : List Rl) (hm : ∀ x ∈ more, roleOkB x.f0 x.f1 = true) (hml : more.length ≤ 24) (hg : GoodR out)
  (hn : Ev (fun k => impl_ReachRoles.l0 k list (more.foldl addR out) ((i + 1 : Nat) : Int)) R) : Ev (fun k => impl_ReachRoles.l1 k list out i more more.length 0) R := by
 refine Ev.up more.length (fun j (s : List Rl) k => impl_ReachRoles.l1 k list s i more more.length j) (fun _ _ => R) (fun j s => GoodR s ∧ (more.drop j).foldl addR s = more.foldl addR out) ?_ ?_ 0 out (Nat.zero_le _) ⟨hg, rfl⟩
 ·intro j s hj hs ih
  have hlen := hs.1.len
  refine Ev.succ ?_
  simp only [impl_ReachRoles.l1, nat_lt, nat_0, hj, ↓reduceIte, rd_T27, getD_ _ hj, getDn_ _ hj, up_ (show j < 4611686018427387904 by omega), show s.length < 8796093022208 by omega]
  refine Ev.bind (containsRole s _ _ (by omega)) ?_
  have e := hs.2
  rw [List.drop_eq_getElem_cons hj, List.foldl_cons] at e
  have hr := ih (addR s more[j]) ⟨hs.1.add (hm _ (List.getElem_mem hj)), e⟩
  by_cases hc : s.any (isRole more[j].f0 more[j].f1) = true
  ·have e : addR s more[j] = s := by unfold addR; rw [if_pos hc]
   rw [e] at hr
   simp only [hc, ↓reduceIte]
   exact hr
  ·have e : addR s more[j] = s ++ [more[j]] := by unfold addR; rw [if_neg hc]
   rw [e] at hr
   simp only [hc, Bool.false_eq_true, ↓reduceIte]
   exact hr
 ·intro s hs
  refine Ev.succ ?_
  simp only [impl_ReachRoles.l1, nat_lt, Nat.lt_irrefl, ↓reduceIte, up_ hi]
  have e := hs.2
  rw [List.drop_length, List.foldl_nil] at e
  rw [e]
  exact hn
theorem impl_reachL (list : List Cr) (hl : list.length ≤ 1048576) : ∀ (d i : Nat) (out : List Rl), 25 - i = d → i ≤ 25 → GoodR out → Ev (fun k => impl_ReachRoles.l0 k list out i) (reachL list d out i) := by
 intro d
 induction d with
 | zero =>
  intro i out hd hi hg
  have := hg.len
  refine Ev.succ ?_
  simp only [impl_ReachRoles.l0, nat_lt, show ¬ i < out.length by omega, ↓reduceIte]
  exact Ev.now _
 | succ d ih =>
  intro i out hd hi hg
  unfold reachL
  refine Ev.succ ?_
  by_cases h : i < out.length
  ·obtain ⟨h1, _, _⟩ := fold_add (leansD list (out.getD i zR)) out hg (leansD_good list _).2
   have hn := ih (i + 1) _ (by omega) (by omega) h1
   rw [if_pos h]
   rw [getDn_ _ h] at hn h1 ⊢
   simp only [impl_ReachRoles.l0, nat_lt, nat_0, h, ↓reduceIte, rd_T27, getD_ _ h, getDn_ _ h]
   refine Ev.bind (impl_Leans list hl _ _) ?_
   exact impl_adds list out i (by omega) _ _ (leansD_good list _).2 (leansD_good list _).len hg hn
  ·simp only [impl_ReachRoles.l0, nat_lt, h, ↓reduceIte]
   exact Ev.now _
theorem impl_Reach (list : List Cr) (hl : list.length ≤ 1048576) (a b : Int) : Ev (fun k => impl_ReachRoles.f k list a b) (reachD list ⟨a, b⟩) := by
 unfold impl_ReachRoles.f
 refine Ev.bind (impl_Leans list hl a b) ?_
 exact impl_reachL list hl 25 0 _ rfl (by omega) (leansD_good list _)
theorem reachD_good (list : List Cr) (r : Rl) : GoodR (reachD list r) := (reachD_closed list r).1
theorem impl_Needed (list : List Cr) (hl : list.length ≤ 1048576) (a b : Int) : Ev (fun k => impl_NeededFor.f k list a b) (neededD list ⟨a, b⟩) := by
 unfold impl_NeededFor.f
 refine Ev.bind (impl_Reach list hl a b) ?_
 have hR := (reachD_good list ⟨a, b⟩).len
 simp only [Option.bind_some, List.length_singleton, show (reachD list ⟨a, b⟩).length + 1 < 8796093022208 by omega, ↓reduceIte]
 have e0 : neededD list ⟨a, b⟩ = list.filter (fun c => cOk c && (reachD list ⟨a, b⟩ ++ [(⟨a, b⟩ : Rl)]).any (isRole c.f1.f0 c.f1.f1)) := by
  unfold neededD needP
  refine List.filter_congr (fun c _ => ?_)
  congr 1
  rw [any_isRole]
  rw [Bool.eq_iff_iff]
  simp only [Bool.or_eq_true, decide_eq_true_eq, List.mem_append, List.mem_singleton]
  exact ⟨fun h => h.elim (fun h => .inr h) (fun h => .inl h), fun h => h.elim (fun h => .inr h) (fun h => .inl h)⟩
 rw [e0]
 obtain ⟨X, hX⟩ : ∃ X, X = reachD list ⟨a, b⟩ ++ [(⟨a, b⟩ : Rl)] := ⟨_, rfl⟩
 have hXl : X.length ≤ 25 := by rw [hX, List.length_append, List.length_singleton]; omega
 rw [← hX]
 have key := Ev.up list.length (fun i (s : List Cr) k => impl_NeededFor.l0 k X s list list.length i) (fun i s => s ++ (list.drop i).filter (fun c => cOk c && X.any (isRole c.f1.f0 c.f1.f1))) (fun i s => s.length ≤ i) ?_ ?_ 0 [] (Nat.zero_le _) (Nat.le_refl _)
 ·exact key
 ·intro i s hi hs ih
  rw [List.drop_eq_getElem_cons hi, List.filter_cons]
  obtain ⟨c, hc⟩ : ∃ c, list[i] = c := ⟨_, rfl⟩
  rw [hc]
  have hup := up_ (show i < 4611686018427387904 by omega)
  have h0 := ih s (by omega)
  have h1 := ih (s ++ [c]) (by simp; omega)
  rw [List.append_assoc, List.singleton_append] at h1
  refine Ev.succ ?_
  simp only [impl_NeededFor.l0, nat_lt, nat_0, hi, ↓reduceIte, rd_T46, getD_ _ hi, getDn_ _ hi, hc, hup, Option.bind_some, List.length_singleton, show s.length + 1 < 1759218604441 by omega]
  refine Ev.bind (impl_CredOk _ _ _ _ _ _ _ _ _ _) ?_
  change Ev (fun k => if cOk c = true then _ else _) _
  cases ok : cOk c
  ·simp only [Bool.false_eq_true, ↓reduceIte, Bool.false_and]
   exact h0
  ·simp only [↓reduceIte, Bool.true_and]
   refine Ev.bind (containsRole X _ _ (by omega)) ?_
   by_cases hx : X.any (isRole c.f1.f0 c.f1.f1) = true
   ·simp only [hx, ↓reduceIte]
    exact h1
   ·simp only [hx, Bool.false_eq_true, ↓reduceIte]
    exact h0
 ·intro s hs
  refine Ev.succ ?_
  simp only [impl_NeededFor.l0, nat_lt, Nat.lt_irrefl, ↓reduceIte, List.drop_length, List.filter_nil, List.append_nil]
  exact Ev.now _
end Q
end Go.Proofs.Ytcbhmcpdnokbiaa
