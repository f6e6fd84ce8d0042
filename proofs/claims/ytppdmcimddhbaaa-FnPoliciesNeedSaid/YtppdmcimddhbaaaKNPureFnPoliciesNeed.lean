/-
The plain law of FnPoliciesNeed: what a policy tells hangs on the words that its circles need.
-/
import Derived.Test.YtppdmcimddhbaaaKNPEx24
import Derived.Test.YtppdmcimddhbaaaKNQ25
namespace Go.Proofs.Ytppdmcimddhbaaa
open Go.RowKit Go.Proofs.YtppdmcimddhbaaaW.PrintWords Go.Proofs.YtppdmcimddhbaaaW.PrintLast Go.Proofs.YtppdmcimddhbaaaW.PrintMore Go.Proofs.Ytppdmcimddhbaaa.PE
set_option linter.unusedVariables false
set_option linter.unusedSimpArgs false
namespace Q
theorem tellsD_same {F F' : List Fc} {w : Int} : ∀ (l : List Node) (acc : List Bool), (∀ x ∈ l, x.f0 = 1 → ((⟨⟨x.f1.f0, x.f1.f1⟩, w⟩ : Fc) ∈ F ↔ (⟨⟨x.f1.f0, x.f1.f1⟩, w⟩ : Fc) ∈ F')) → tellsD F w l acc = tellsD F' w l acc := by
 intro l
 induction l with
 | nil => exact fun _ _ => rfl
 | cons x xs ih =>
  intro acc h
  rw [tells_cons, tells_cons]
  have e : valD F w acc x = valD F' w acc x := by
   unfold valD
   by_cases h1 : x.f0 = 1
   ·rw [if_pos h1, if_pos h1, decide_eq_decide]
    exact h x (List.mem_cons_self ..) h1
   ·rw [if_neg h1, if_neg h1]
  rw [e]
  exact ih _ (fun y hy => h y (List.mem_cons_of_mem _ hy))
theorem rolesB_keep : ∀ (l : List Node) (acc : List Role) (r : Role), r ∈ acc → r ∈ rolesB l acc := by
 intro l
 induction l with
 | nil => exact fun _ _ h => h
 | cons x xs ih =>
  intro acc r h
  show r ∈ rolesB xs (if x.f0 = 1 then addR acc x.f1 else acc)
  refine ih _ _ ?_
  split
  ·exact mem_addR.2 (.inl h)
  ·exact h
theorem rolesB_mem : ∀ (l : List Node) (acc : List Role) (x : Node), x ∈ l → x.f0 = 1 → x.f1 ∈ rolesB l acc := by
 intro l
 induction l with
 | nil => exact fun _ _ h => absurd h (by simp)
 | cons y ys ih =>
  intro acc x h h1
  show x.f1 ∈ rolesB ys (if y.f0 = 1 then addR acc y.f1 else acc)
  rcases List.mem_cons.1 h with rfl | h
  ·rw [if_pos h1]
   exact rolesB_keep _ _ _ (mem_addR.2 (.inr rfl))
  ·exact ih _ x h h1
def eqCb (c x : Cr) : Bool := x.f0 == c.f0 && ((x.f1.f0 == c.f1.f0 && x.f1.f1 == c.f1.f1) && (x.f2 == c.f2 && ((x.f3.f0 == c.f3.f0 && x.f3.f1 == c.f3.f1) && ((x.f4.f0 == c.f4.f0 && x.f4.f1 == c.f4.f1) && (x.f5 == c.f5 && x.f6 == c.f6)))))
theorem eqCb_self (c : Cr) : eqCb c c = true := by simp [eqCb]
def usedB (list : List Cr) (roles : List Rl) (c : Cr) : Bool := roles.any fun r => (neededD list r).any (eqCb c)
def needL (list : List Cr) (roles : List Rl) : List Cr := list.filter (usedB list roles)
theorem need_has {list : List Cr} {roles : List Rl} {r : Rl} (hr : r ∈ roles) : ∀ c ∈ neededD list r, c ∈ needL list roles := by
 intro c hc
 unfold needL
 rw [List.mem_filter]
 refine ⟨(List.mem_filter.1 hc).1, ?_⟩
 unfold usedB
 rw [List.any_eq_true]
 refine ⟨r, hr, ?_⟩
 rw [List.any_eq_true]
 exact ⟨c, hc, eqCb_self c⟩
theorem decide_need (list : List Cr) (p : List Node) (w : Int) : decideB (needL list (policyRolesB p)) p w = decideB list p w := by
 unfold decideB
 by_cases hp : policyOkB p = true
 ·rw [if_pos hp, if_pos hp]
  have e : policyRolesB p = rolesB p [] := by unfold policyRolesB; rw [if_pos hp]
  rw [tellsD_same p [] (fun x hx h1 => ?_)]
  rw [mem_factsF, mem_factsF]
  constructor
  ·intro d
   refine Der.more (fun c hc _ => (List.mem_filter.1 hc).1) d
  ·intro d
   exact needed_der (r := x.f1) (need_has (by rw [e]; exact rolesB_mem p [] x hx h1)) d
 ·rw [if_neg hp, if_neg hp]
end Q
theorem Pure.FnPoliciesNeed : ∀ (x0 : List Int), All U8 x0 → ∃ k, laws_FnPoliciesNeed.f k x0 = some true := by
 intro x0 hg
 refine Q.Ev.get (g := fun k => laws_FnPoliciesNeed.f k x0) ?_
 unfold laws_FnPoliciesNeed.f laws_big.f
 simp only [Option.bind_some]
 by_cases hb : ((x0.length : Int) > 1048576)
 ·simp only [hb, decide_true, ↓reduceIte]
  exact Ev.now _
 ·simp only [hb, decide_false, Bool.false_eq_true, ↓reduceIte]
  obtain ⟨list, e1, l1⟩ := Q.draw_Words x0 (by omega)
  obtain ⟨p, e3, lp, gp⟩ := Q.draw_Policy x0 (by omega) false
  simp only [Bool.false_eq_true, ↓reduceIte] at gp
  refine Ev.bind e1 ?_
  refine Ev.bind e3 ?_
  refine Ev.bind (Q.impl_PolicyRoles p (by omega)) ?_
  have r1 := Q.roles_one gp lp.1 (by omega)
  have r2 := Q.policyRolesB_len p
  have hneed : ∀ w, Q.decideB (Q.needL list (Q.policyRolesB p)) p w = Q.decideB list p w := fun w => Q.decide_need list p w
  have hnl : (Q.needL list (Q.policyRolesB p)).length ≤ 9 := Nat.le_trans (List.length_filter_le _ _) l1
  have hdef : Q.needL list (Q.policyRolesB p) = list.filter (Q.usedB list (Q.policyRolesB p)) := rfl
  obtain ⟨roles, hroles⟩ : ∃ roles, Q.policyRolesB p = roles := ⟨_, rfl⟩
  rw [hroles] at r1 r2 hneed hnl hdef ⊢
  generalize Q.needL list roles = nd at hneed hnl hdef
  have l3 : ∀ (d i : Nat), 6 - i = d → i ≤ 6 → Ev (fun k => laws_FnPoliciesNeed.l3 k list roles nd i p) true := by
   intro d
   induction d with
   | zero =>
    intro i hd hi
    refine Q.Ev.succ ?_
    simp only [laws_FnPoliciesNeed.l3, show ¬ ((i : Int) < 6) by omega, ↓reduceIte]
    have h0 := Q.impl_Dec list (by omega) [] (by simp) 0
    rw [show Q.decideB list [] 0 = false from rfl] at h0
    refine Ev.bind h0 ?_
    simp only [Bool.false_eq_true, ↓reduceIte, show ((roles.length : Int) > 0) by omega, decide_true]
    exact Ev.now _
   | succ d ih =>
    intro i hd hi
    have hn := ih (i + 1) (by omega) (by omega)
    refine Q.Ev.succ ?_
    simp only [laws_FnPoliciesNeed.l3, show ((i : Int) < 6) by omega, ↓reduceIte, Q.up_ (show i < 4611686018427387904 by omega)]
    refine Ev.bind (Q.impl_Dec nd (by omega) p (by omega) i) ?_
    refine Ev.bind (Q.impl_Dec list (by omega) p (by omega) i) ?_
    rw [hneed]
    simp only [bne_self_eq_false, Bool.false_eq_true, ↓reduceIte]
    refine Ev.bind (Q.impl_Dec list (by omega) p (by omega) i) ?_
    refine Ev.bind (Q.spec_Dec list (by omega) p (by omega) i) ?_
    simp only [bne_self_eq_false, Bool.false_eq_true, ↓reduceIte]
    exact hn
  have l2 : ∀ (i : Nat) (hi : i < list.length) (acc : List Q.Cr) (m : Nat) (hm : m < 4611686018427387904) (b : Bool) (t : List Q.Cr), t.length ≤ 1048576 →
    Ev (fun k => laws_FnPoliciesNeed.l1 k list roles acc i (b || t.any (Q.eqCb list[i])) ((m + 1 : Nat) : Int) p) true → Ev (fun k => laws_FnPoliciesNeed.l2 k list roles acc i b m t 0 p) true := by
   intro i hi acc m hm b t ht hn
   refine Q.Ev.up t.length (fun j (s : Bool) k => laws_FnPoliciesNeed.l2 k list roles acc i s m t j p) (fun _ _ => true) (fun j s => (s || (t.drop j).any (Q.eqCb list[i])) = (b || t.any (Q.eqCb list[i]))) ?_ ?_ 0 b (Nat.zero_le _) rfl
   ·intro j s hj hs ih
    refine Q.Ev.succ ?_
    rw [List.drop_eq_getElem_cons hj, List.any_cons] at hs
    simp only [laws_FnPoliciesNeed.l2, Q.nat_lt, Q.nat_0, hj, hi, ↓reduceIte, rd_T46, Q.getD_ _ hj, Q.getDn_ _ hj, Q.getD_ _ hi, Q.getDn_ _ hi, Q.up_ (show j < 4611686018427387904 by omega)]
    cases s
    ·simp only [Bool.false_eq_true, ↓reduceIte]
     rw [Bool.false_or] at hs
     exact ih _ hs
    ·simp only [↓reduceIte]
     exact ih true (by rw [Bool.true_or] at hs ⊢; exact hs)
   ·intro s hs
    refine Q.Ev.succ ?_
    simp only [laws_FnPoliciesNeed.l2, Q.nat_lt, Nat.lt_irrefl, ↓reduceIte, Q.up_ hm]
    rw [List.drop_length, List.any_nil, Bool.or_false] at hs
    rw [hs]
    exact hn
  have lw : ∀ (i : Nat) (hi : i < list.length) (acc : List Q.Cr), acc.length ≤ 9 → Ev (fun k => laws_FnPoliciesNeed.l0 k list roles (if Q.usedB list roles list[i] = true then acc ++ [list[i]] else acc) ((i + 1 : Nat) : Int) p) true → Ev (fun k => laws_FnPoliciesNeed.l1 k list roles acc i false 0 p) true := by
   intro i hi acc ha hn
   refine Q.Ev.up roles.length (fun m (s : Bool) k => laws_FnPoliciesNeed.l1 k list roles acc i s m p) (fun _ _ => true) (fun m s => (s || (roles.drop m).any (fun r => (Q.neededD list r).any (Q.eqCb list[i]))) = Q.usedB list roles list[i]) ?_ ?_ 0 false (Nat.zero_le _) (by rw [List.drop_zero, Bool.false_or]; rfl)
   ·intro m s hm hs ih
    refine Q.Ev.succ ?_
    rw [List.drop_eq_getElem_cons hm, List.any_cons] at hs
    simp only [laws_FnPoliciesNeed.l1, Q.nat_lt, Q.nat_0, hm, ↓reduceIte, rd_T27, Q.getD_ _ hm, Q.getDn_ _ hm]
    refine Ev.bind (Q.spec_Needed list (by omega) _ _) ?_
    refine l2 i hi acc m (by omega) s _ (Nat.le_trans (List.length_filter_le _ _) (by omega)) ?_
    exact ih _ (by rw [Bool.or_assoc]; exact hs)
   ·intro s hs
    refine Q.Ev.succ ?_
    rw [List.drop_length, List.any_nil, Bool.or_false] at hs
    simp only [laws_FnPoliciesNeed.l1, Q.nat_lt, Q.nat_0, Nat.lt_irrefl, hi, ↓reduceIte, rd_T46, Q.getD_ _ hi, Q.getDn_ _ hi, Q.up_ (show i < 4611686018427387904 by omega), show acc.length < 1759218604441 by omega]
    rw [← hs] at hn
    cases s
    ·simp only [Bool.false_eq_true, ↓reduceIte] at hn ⊢
     exact hn
    ·simp only [↓reduceIte] at hn ⊢
     exact hn
  refine Q.Ev.up list.length (fun i (s : List Q.Cr) k => laws_FnPoliciesNeed.l0 k list roles s i p) (fun _ _ => true) (fun i s => s.length ≤ i ∧ s ++ (list.drop i).filter (Q.usedB list roles) = nd) ?_ ?_ 0 [] (Nat.zero_le _) ⟨Nat.le_refl _, by rw [List.nil_append, List.drop_zero]; exact hdef.symm⟩
  ·intro i s hi hs ih
   refine Q.Ev.succ ?_
   simp only [laws_FnPoliciesNeed.l0, Q.nat_lt, hi, ↓reduceIte]
   refine lw i hi s (by omega) ?_
   have h2 := hs.2
   rw [List.drop_eq_getElem_cons hi, List.filter_cons] at h2
   refine ih _ ?_
   by_cases hu : Q.usedB list roles list[i] = true
   ·rw [if_pos hu] at h2 ⊢
    refine ⟨by simp; omega, ?_⟩
    rw [List.append_assoc, List.singleton_append]
    exact h2
   ·rw [if_neg hu] at h2 ⊢
    exact ⟨by omega, h2⟩
  ·intro s hs
   refine Q.Ev.succ ?_
   simp only [laws_FnPoliciesNeed.l0, Q.nat_lt, Nat.lt_irrefl, ↓reduceIte]
   have h2 := hs.2
   rw [List.drop_length, List.filter_nil, List.append_nil] at h2
   rw [h2]
   exact l3 6 0 rfl (by omega)
end Go.Proofs.Ytppdmcimddhbaaa
