/-
What the law of critical words asks of a proof, step by step.
-/
import Derived.Test.YtcbhmcpdnokbiaaKLPAx19
import Derived.Test.YtcbhmcpdnokbiaaKLQ44
namespace Go.Proofs.Ytcbhmcpdnokbiaa
open Go.RowKit Go.Proofs.YtcbhmcpdnokbiaaW.PrintWords Go.Proofs.YtcbhmcpdnokbiaaW.PrintLast Go.Proofs.YtcbhmcpdnokbiaaW.PrintMore Go.Proofs.Ytcbhmcpdnokbiaa.PA
set_option linter.unusedVariables false
set_option linter.unusedSimpArgs false
namespace Q
theorem memUp : ∀ (d : Nat) (F : List Fc) (a b : Int) (hF : F.length ≤ 1048576) (acc : List Int), acc.length + d ≤ 6 →
  Ev (fun k => spec_MembersOf.l0 k F acc (6 - (d : Int)) a b) (acc ++ (upTo d).filter fun w => decide ((⟨⟨a, b⟩, w⟩ : Fc) ∈ F)) := by
 intro d
 induction d with
 | zero =>
  intro F a b hF acc ha
  refine Ev.succ ?_
  simp only [spec_MembersOf.l0, show ¬ ((6 : Int) - ((0 : Nat) : Int) < 6) by omega, ↓reduceIte, upTo, List.filter_nil, List.append_nil]
  exact Ev.now _
 | succ d ih =>
  intro F a b hF acc ha
  refine Ev.succ ?_
  have h1 : wrap64 (6 - ((d + 1 : Nat) : Int) + 1) = 6 - (d : Int) := by rw [w64 (by omega) (by omega)]; omega
  simp only [spec_MembersOf.l0, show (6 : Int) - ((d + 1 : Nat) : Int) < 6 by omega, ↓reduceIte, h1]
  refine Ev.bind (spec_hasF F a b (6 - ((d + 1 : Nat) : Int)) hF) ?_
  rw [upTo, List.filter_cons]
  by_cases hm : (⟨⟨a, b⟩, 6 - ((d + 1 : Nat) : Int)⟩ : Fc) ∈ F
  ·simp only [hm, decide_true, ↓reduceIte, show acc.length < 17592186044416 by omega]
   have := ih F a b hF (acc ++ [6 - ((d + 1 : Nat) : Int)]) (by rw [List.length_append, List.length_singleton]; omega)
   rw [List.append_assoc] at this
   exact this
  ·simp only [hm, decide_false, Bool.false_eq_true, ↓reduceIte]
   exact ih F a b hF acc (by omega)
theorem spec_Members (list : List Cr) (hl : list.length ≤ 1048576) (a b : Int) : Ev (fun k => spec_MembersOf.f k list a b) (memS (factsF list) ⟨a, b⟩) := by
 unfold spec_MembersOf.f
 refine Ev.bind (spec_Facts list hl) ?_
 have h := factsF_len list
 have := memUp 6 (factsF list) a b (by omega) [] (by simp)
 rw [List.nil_append] at this
 exact this
theorem members_need (list : List Cr) (r : Rl) : memS (factsF (neededD list r)) r = memS (factsF list) r := by
 unfold memS
 apply List.filter_congr
 intro w _
 rw [decide_eq_decide, mem_factsF, mem_factsF]
 exact ⟨fun d => d.more (fun c hc _ => (List.mem_filter.1 hc).1), fun d => needed_der (fun c hc => hc) d⟩
theorem mem_critL {l : List Cr} {r : Rl} {w h : Int} (hh : h ∈ critL l r w) : ∃ p : Nat, h = (p : Int) ∧ p < l.length ∧ memF (withoutL l (p : Int)) r w = false := by
 unfold critL at hh
 split at hh
 ·unfold critAt at hh
  simp only [List.mem_map, List.mem_filter, List.mem_range'_1, Bool.not_eq_true'] at hh
  obtain ⟨p, ⟨⟨_, h1⟩, h2⟩, rfl⟩ := hh
  exact ⟨p, rfl, by omega, h2⟩
 ·exact absurd hh (by simp)
theorem crit_used {l : List Cr} {f : Fc} {used : List Cr} (hd : Der used f) (hu : ∀ c ∈ used, c ∈ l) {p : Nat} (hp : p < l.length) (hc : memF (withoutL l (p : Int)) f.f0 f.f1 = false) : l[p] ∈ used := by
 apply Classical.byContradiction
 intro hn
 have h1 : Der (withoutL l (p : Int)) f := by
  refine hd.more (fun c hcu _ => ?_)
  unfold withoutL
  rw [if_pos ⟨by omega, by omega⟩, Int.toNat_natCast]
  obtain ⟨i, hi, rfl⟩ := List.mem_iff_getElem.1 (hu c hcu)
  refine List.mem_eraseIdx_iff_getElem.2 ⟨i, hi, ?_, rfl⟩
  rintro rfl
  exact hn hcu
 have h2 : memF (withoutL l (p : Int)) f.f0 f.f1 = true := memF_iff.2 h1
 rw [h2] at hc
 exact absurd hc (by simp)
theorem law_l2 (l u : List Cr) (hd : List Int) (i : Nat) (hi : i < hd.length) (p : Nat) (hp : rd hd (i : Int) = (p : Int)) (hpl : p < l.length) (hu : u.length ≤ 1000) (a b w : Int) : ∀ (d j : Nat) (b0 : Bool), u.length - j = d → j ≤ u.length → ∀ R,
  Ev (fun k => laws_FnLeans.l2 k l true u hd (i : Int) (b0 || (u.drop j).any fun x => isCr x l[p]) (u.length : Int) a b w) R → Ev (fun k => laws_FnLeans.l2 k l true u hd (i : Int) b0 (j : Int) a b w) R := by
 intro d
 induction d with
 | zero =>
  intro j b0 hd' hj R hR
  have : j = u.length := by omega
  subst this
  simpa using hR
 | succ d ih =>
  intro j b0 hd' hj R hR
  have hjl : j < u.length := by omega
  rw [List.drop_eq_getElem_cons hjl, List.any_cons] at hR
  refine Ev.succ ?_
  cases b0 with
  | true =>
   simp only [laws_FnLeans.l2, nat_lt, hjl, ↓reduceIte, up_ (show j < 4611686018427387904 by omega)]
   exact ih (j + 1) true (by omega) (by omega) R (by simpa using hR)
  | false =>
   simp only [laws_FnLeans.l2, nat_lt, nat_0, hjl, hi, hp, hpl, Bool.false_eq_true, ↓reduceIte, getD_C hjl, getD_C hpl, up_ (show j < 4611686018427387904 by omega)]
   exact ih (j + 1) (isCr u[j] l[p]) (by omega) (by omega) R (by simpa only [Bool.false_or, Bool.or_assoc] using hR)
theorem law_l1 (l u : List Cr) (hll : l.length ≤ 1048576) (hl1 : 1 ≤ l.length) (hu : u.length ≤ 1000) (a b w : Int) (hd : List Int) (hdl : hd.length ≤ 1048576) (hin : ∀ h ∈ hd, ∃ p : Nat, ∃ hp : p < l.length, h = (p : Int) ∧ memF (withoutL l (p : Int)) ⟨a, b⟩ w = false ∧ l[p] ∈ u) :
  ∀ (d i : Nat), hd.length - i = d → i ≤ hd.length → Ev (fun k => laws_FnLeans.l1 k l true u hd (i : Int) a b w) true := by
 intro d
 induction d with
 | zero =>
  intro i hd' hi
  have : i = hd.length := by omega
  subst this
  refine Ev.succ ?_
  have h0 : (withoutL l 0).length = l.length - 1 := by
   unfold withoutL
   rw [if_pos ⟨by omega, by omega⟩, List.length_eraseIdx, if_pos (show (0 : Int).toNat < l.length by omega)]
  simp only [laws_FnLeans.l1, nat_lt, Nat.lt_irrefl, ↓reduceIte, impl_Wo l 0 hll, Option.bind_some, h0, w64 (n := (l.length : Int) - 1) (by omega) (by omega)]
  have : (((l.length - 1 : Nat) : Int) == (l.length : Int) - 1) = true := by
   rw [beq_iff_eq]
   omega
  rw [this]
  exact Ev.now _
 | succ d ih =>
  intro i hd' hi
  have hil : i < hd.length := by omega
  obtain ⟨p, hp, e1, e2, e3⟩ := hin hd[i] (List.getElem_mem hil)
  have hpi : rd hd (i : Int) = (p : Int) := by rw [rdI hil, e1]
  refine Ev.succ ?_
  simp only [laws_FnLeans.l1, nat_lt, hil, ↓reduceIte]
  refine law_l2 l u hd i hil p hpi hp hu a b w _ 0 false rfl (Nat.zero_le _) _ ?_
  have hany : ((u.drop 0).any fun x => isCr x l[p]) = true := by
   rw [List.drop_zero, List.any_eq_true]
   exact ⟨_, e3, (isCr_iff _ _).2 rfl⟩
  rw [hany, Bool.or_true]
  refine Ev.succ ?_
  simp only [laws_FnLeans.l2, nat_lt, nat_0, Nat.lt_irrefl, ↓reduceIte, hil, hpi, impl_Wo l (p : Int) hll, Option.bind_some, up_ (show i < 4611686018427387904 by omega)]
  refine Ev.bind (spec_Mem (withoutL l (p : Int)) (Nat.le_trans (withoutL_len l p) hll) a b w) ?_
  rw [e2]
  simp only [Bool.false_eq_true, ↓reduceIte]
  exact ih (i + 1) (by omega) (by omega)
theorem law_l0 (l : List Cr) (ok : Bool) (reach on : List Rl) (hon : on.length ≤ 1000) (hre : reach.length ≤ 1000) (hsub : ∀ x ∈ on, x ∈ reach) (a b w r0 r1 : Int) (R : Bool)
  (fin : Ev (fun k => laws_FnLeans.l0 k l ok reach on (on.length : Int) a b w r0 r1) R) : ∀ (d i : Nat), on.length - i = d → i ≤ on.length → Ev (fun k => laws_FnLeans.l0 k l ok reach on (i : Int) a b w r0 r1) R := by
 intro d
 induction d with
 | zero =>
  intro i hd hi
  have : i = on.length := by omega
  subst this
  exact fin
 | succ d ih =>
  intro i hd hi
  have hil : i < on.length := by omega
  refine Ev.succ ?_
  simp only [laws_FnLeans.l0, nat_lt, nat_0, hil, ↓reduceIte, rd_T27, getD_ _ hil, up_ (show i < 4611686018427387904 by omega)]
  refine Ev.bind (laws_has reach _ _ (by omega)) ?_
  have hm : (⟨on[i].f0, on[i].f1⟩ : Rl) ∈ reach := hsub _ (List.getElem_mem hil)
  simp only [hm, decide_true, ↓reduceIte]
  exact ih (i + 1) (by omega) (by omega)
end Q
end Go.Proofs.Ytcbhmcpdnokbiaa
