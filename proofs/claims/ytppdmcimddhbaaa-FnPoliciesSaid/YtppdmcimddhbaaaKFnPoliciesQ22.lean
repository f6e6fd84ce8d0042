/-
Policies: more words tell no less; not twice; a policy comes back from its text; Rising of what has no not.
-/
import Derived.Test.YtppdmcimddhbaaaKFnPoliciesPEx0
import Derived.Test.YtppdmcimddhbaaaKFnPoliciesZOpen
import Derived.Test.YtppdmcimddhbaaaKFnPoliciesPEx15
import Derived.Test.YtppdmcimddhbaaaKFnPoliciesQ21
namespace Go.Proofs.Ytppdmcimddhbaaa
open Go.RowKit Go.Proofs.YtppdmcimddhbaaaW.PrintWords Go.Proofs.YtppdmcimddhbaaaW.PrintLast Go.Proofs.YtppdmcimddhbaaaW.PrintMore Go.Proofs.Ytppdmcimddhbaaa.PE
set_option linter.unusedVariables false
set_option linter.unusedSimpArgs false
namespace Q
def LeB (a b : List Bool) : Prop := a.length = b.length ∧ ∀ i : Int, rdOf false a i = true → rdOf false b i = true
theorem LeB.snoc {a b : List Bool} {x y : Bool} (h : LeB a b) (hxy : x = true → y = true) : LeB (a ++ [x]) (b ++ [y]) := by
  obtain ⟨h1, h2⟩ := h
  refine ⟨by simp [h1], fun i hi => ?_⟩
  have h3 := h2 i
  unfold rdOf at h3 hi ⊢
  rw [List.getD_eq_getElem?_getD, List.getElem?_append] at hi ⊢
  rw [List.getD_eq_getElem?_getD, List.getD_eq_getElem?_getD] at h3
  by_cases hl : i.toNat < a.length
  · rw [if_pos hl] at hi
    rw [if_pos (by omega)]
    exact h3 hi
  · rw [if_neg hl] at hi
    rw [if_neg (by omega), ← h1]
    by_cases he : i.toNat - a.length = 0
    · rw [he] at hi ⊢
      simp at hi ⊢
      exact hxy hi
    · obtain ⟨m, hm⟩ : ∃ m, i.toNat - a.length = m + 1 := ⟨i.toNat - a.length - 1, by omega⟩
      rw [hm] at hi
      simp at hi
theorem valD_mono {F F' : List Fc} (hF : ∀ f ∈ F, f ∈ F') {w : Int} {a b : List Bool} (h : LeB a b) {x : Node} (hx : x.f0 = 1 ∨ x.f0 = 2 ∨ x.f0 = 3) : valD F w a x = true → valD F' w b x = true := by
  unfold valD
  rcases hx with q | q | q
  · simp only [q, ↓reduceIte, decide_eq_true_eq]
    exact hF _
  · simp only [q, show ¬ ((2 : Int) = 1) by omega, ↓reduceIte, Bool.and_eq_true]
    exact fun ⟨h1, h2⟩ => ⟨h.2 _ h1, h.2 _ h2⟩
  · simp only [q, show ¬ ((3 : Int) = 1) by omega, show ¬ ((3 : Int) = 2) by omega, ↓reduceIte, Bool.or_eq_true]
    exact fun h1 => h1.imp (h.2 _) (h.2 _)
theorem tellsD_mono {F F' : List Fc} (hF : ∀ f ∈ F, f ∈ F') (w : Int) : ∀ (l : List Node) (a b : List Bool), (∀ x ∈ l, x.f0 = 1 ∨ x.f0 = 2 ∨ x.f0 = 3) → LeB a b → LeB (tellsD F w l a) (tellsD F' w l b) := by
  intro l
  induction l with
  | nil => intro a b _ h; exact h
  | cons x xs ih =>
    intro a b hk h
    rw [tells_cons, tells_cons]
    exact ih _ _ (fun y hy => hk y (List.mem_cons_of_mem _ hy)) (h.snoc (valD_mono hF h (hk x (List.mem_cons_self ..))))
theorem GoodP.three {l : List Node} (h : GoodP 3 l) : ∀ x ∈ l, x.f0 = 1 ∨ x.f0 = 2 ∨ x.f0 = 3 := by
  intro x hx
  obtain ⟨j, hj, rfl⟩ := List.mem_iff_getElem.1 hx
  obtain ⟨h1, h2⟩ := h.1 j hj
  rcases kinds_ h1 with q | ⟨q, _⟩ | ⟨q, _⟩ | ⟨q, _⟩
  · exact .inl q
  · exact .inr (.inl q)
  · exact .inr (.inr q)
  · omega
theorem decide_more {list : List Cr} {c : Cr} {l : List Node} (h : GoodP 3 l) {w : Int} (hd : decideB list l w = true) : decideB (list ++ [c]) l w = true := by
  unfold decideB at hd ⊢
  by_cases hp : policyOkB l = true
  · rw [if_pos hp] at hd ⊢
    refine (tellsD_mono (F := factsF list) (F' := factsF (list ++ [c])) (fun f hf => ?_) w l [] [] h.three ⟨rfl, fun _ h => h⟩).2 _ hd
    rw [mem_factsF] at hf ⊢
    exact Der.more (fun c hc _ => List.mem_append_left _ hc) hf
  · rw [if_neg hp] at hd
    exact absurd hd (by simp)
def notN (a : Int) : Node := ⟨4, ⟨0, 0⟩, a, 0⟩
def twiceN (q : List Node) : List Node := q ++ [notN ((q.length : Int) - 1), notN (q.length : Int)]
theorem twice_good {q : List Node} (h : GoodP 4 q) (h1 : 1 ≤ q.length) : GoodP 4 (twiceN q) := by
  have e : twiceN q = (q ++ [notN ((q.length : Int) - 1)]) ++ [notN (q.length : Int)] := by simp [twiceN]
  rw [e]
  refine GoodP.snoc (GoodP.snoc h _ ?_ (by show (4 : Int) ≤ 4; omega) (fun h => by omega)) _ ?_ (by show (4 : Int) ≤ 4; omega) (fun h => by simp at h)
  · unfold nodeOkB notN
    simp [inB]
    omega
  · unfold nodeOkB notN
    simp [inB]
theorem decide_twice {list : List Cr} {q : List Node} (h : GoodP 4 q) (h1 : 1 ≤ q.length) (h2 : q.length ≤ 8) (w : Int) : decideB list (twiceN q) w = decideB list q w := by
  unfold decideB
  rw [if_pos ((twice_good h h1).ok (by simp [twiceN]) (by simp [twiceN]; omega)), if_pos (h.ok h1 (by omega))]
  have hl := tellsD_len (factsF list) w q []
  obtain ⟨t, ht⟩ : ∃ t, tellsD (factsF list) w q [] = t := ⟨_, rfl⟩
  rw [ht] at hl ⊢
  have hn : ∀ (s : List Bool) (a : Int), valD (factsF list) w s (notN a) = !rdOf false s a := by
    intro s a
    unfold valD notN
    simp
  have e : tellsD (factsF list) w (twiceN q) [] = (t ++ [!rdOf false t ((q.length : Int) - 1)]) ++ [!rdOf false (t ++ [!rdOf false t ((q.length : Int) - 1)]) (q.length : Int)] := by
    unfold twiceN
    unfold tellsD at ht ⊢
    rw [List.foldl_append, ht]
    simp only [List.foldl_cons, List.foldl_nil, hn]
  have hl' : t.length = q.length := by simpa using hl
  rw [e]
  have r : ∀ (s : List Bool) (b : Bool), rdOf false (s ++ [b]) (s.length : Int) = b := by
    intro s b
    unfold rdOf
    simp
  have e1 : ((twiceN q).length : Int) - 1 = (((t ++ [!rdOf false t ((q.length : Int) - 1)]).length : Nat) : Int) := by simp [twiceN, hl']; omega
  rw [e1, r, show (q.length : Int) = (t.length : Int) by rw [hl'], r]
  simp
theorem rises_3 {l : List Node} (h : ∀ x ∈ l, x.f0 = 1 ∨ x.f0 = 2 ∨ x.f0 = 3) : ∀ i s, i ≤ l.length → risesN l i s = true := by
  intro i
  induction i with
  | zero => intro s _; rfl
  | succ i ih =>
    intro s hi
    unfold risesN
    have := h l[i] (List.getElem_mem _)
    rw [if_neg (by rintro ⟨_, h4⟩; rw [getDn_ _ (by omega)] at h4; omega)]
    exact ih _ (by omega)
theorem rising_3 {l : List Node} (h : GoodP 3 l) (h1 : 1 ≤ l.length) (h2 : l.length ≤ 40) : risingB l = true := by
  unfold risingB
  rw [if_pos (h.ok h1 h2)]
  exact rises_3 h.three _ _ (Nat.le_refl _)
theorem rising_twice {q : List Node} (h : GoodP 4 q) (h1 : 1 ≤ q.length) (h2 : q.length ≤ 8) : risingB (twiceN q) = false := by
  unfold risingB
  rw [if_pos ((twice_good h h1).ok (by simp [twiceN]) (by simp [twiceN]; omega))]
  have e : (twiceN q).length = (q.length + 1) + 1 := by simp [twiceN]
  rw [e]
  unfold risesN
  rw [if_pos]
  constructor
  · unfold startN
    simp
  · unfold twiceN
    simp [notN]
theorem addR_ge (l : List Role) (r : Role) : l.length ≤ (addR l r).length := by
  unfold addR
  split <;> simp
theorem rolesB_ge : ∀ (l : List Node) (acc : List Role), acc.length ≤ (rolesB l acc).length := by
  intro l
  induction l with
  | nil => intro acc; exact Nat.le_refl _
  | cons x xs ih =>
    intro acc
    show _ ≤ (rolesB xs (if x.f0 = 1 then addR acc x.f1 else acc)).length
    refine Nat.le_trans ?_ (ih _)
    split
    · exact addR_ge _ _
    · exact Nat.le_refl _
theorem roles_one {most : Int} {q : List Node} (h : GoodP most q) (h1 : 1 ≤ q.length) (h2 : q.length ≤ 40) : 1 ≤ (policyRolesB q).length := by
  unfold policyRolesB
  rw [if_pos (h.ok h1 h2)]
  match q, h, h1 with
  | x :: xs, h, _ =>
    have hx : x.f0 = 1 := h.2 (by simp)
    show 1 ≤ (rolesB xs (if x.f0 = 1 then addR [] x.f1 else [])).length
    rw [if_pos hx]
    exact Nat.le_trans (by simp [addR]) (rolesB_ge xs _)
theorem same_ (q : List Node) (h : q.length ≤ 1048576) : Ev (fun k => laws_samePolicy.f k q q) true := by
  unfold laws_samePolicy.f
  simp only [↓reduceIte]
  refine Ev.up0 q.length (fun i k => laws_samePolicy.l0 k i q q) (fun _ => true) ?_ ?_ 0 (Nat.zero_le _)
  · intro i hi hn
    refine Ev.succ ?_
    simp only [laws_samePolicy.l0, nat_lt, nat_0, hi, ↓reduceIte, beq_self_eq_true, Bool.not_true, Bool.or_self, Bool.false_eq_true, up_ (show i < 4611686018427387904 by omega)]
    exact hn
  · refine Ev.succ ?_
    simp only [laws_samePolicy.l0, nat_lt, Nat.lt_irrefl, ↓reduceIte]
    exact Ev.now _
def u8 (x : Int) : UInt8 := UInt8.ofNat x.toNat
theorem u8_nat {x : Int} (h0 : 0 ≤ x) (h1 : x < 128) : ((u8 x).toNat : Int) = x := by
  unfold u8
  have : (UInt8.ofNat x.toNat).toNat = x.toNat % 256 := by simp
  rw [this]
  omega
theorem vtB_1 {x : Int} (h0 : 0 ≤ x) (h1 : x < 128) : (vtB x).data.toList = [u8 x] := by
  have e := vtB_toList x
  rw [toList_eq] at e
  rw [e, vt_small (by omega)]
  show [UInt8.ofNat (((x.toNat : Nat) : Int)).toNat] = [UInt8.ofNat x.toNat]
  rw [Int.toNat_natCast]
theorem readVar_1 {t : ByteArray} {i : Nat} {x : Int} (hx0 : 0 ≤ x) (hx : x < 128) (h : t.data.toList[i]? = some (u8 x)) : readVarB t (i : Int) = (x, ((i + 1 : Nat) : Int), true) := by
  have hs : t.data.toList.length = t.size := by rw [Array.length_toList]; rfl
  have hi : i < t.size := by rw [← hs]; exact (List.getElem?_eq_some_iff.1 h).1
  have hb : byte t i = x.toNat := by
    unfold byte
    rw [List.getD_eq_getElem?_getD, h]
    have := u8_nat hx0 hx
    show (u8 x).toNat = x.toNat
    omega
  unfold readVarB
  rw [if_pos (by omega), Int.toNat_natCast, rv, dif_pos ⟨by omega, by omega⟩, if_neg (by simp only [Nat.add_zero, hb]; omega), if_neg (by simp only [Nat.add_zero, hb]; omega)]
  simp only [Nat.add_zero, hb]
  have : ((0 + x.toNat % 128 * 128 ^ 0 : Nat) : Int) = x := by omega
  rw [this]
def Sm (x : Node) : Prop := (0 ≤ x.f0 ∧ x.f0 < 128) ∧ (0 ≤ x.f1.f0 ∧ x.f1.f0 < 128) ∧ (0 ≤ x.f1.f1 ∧ x.f1.f1 < 128) ∧ (0 ≤ x.f2 ∧ x.f2 < 128) ∧ (0 ≤ x.f3 ∧ x.f3 < 128)
def enc5 (x : Node) : List UInt8 := [u8 x.f0, u8 x.f1.f0, u8 x.f1.f1, u8 x.f2, u8 x.f3]
theorem nodeText_5 {x : Node} (h : Sm x) : (nodeText x).data.toList = enc5 x := by
  obtain ⟨⟨a0, a1⟩, ⟨b0, b1⟩, ⟨c0, c1⟩, ⟨d0, d1⟩, ⟨e0, e1⟩⟩ := h
  unfold nodeText enc5
  simp [ByteArray.data_append, vtB_1 a0 a1, vtB_1 b0 b1, vtB_1 c0 c1, vtB_1 d0 d1, vtB_1 e0 e1]
theorem vars_5 {t : ByteArray} {i : Nat} {x : Node} {rest : List UInt8} (h : Sm x) (ht : t.data.toList.drop i = enc5 x ++ rest) : varsB t 5 (i : Int) [] = ([x.f0, x.f1.f0, x.f1.f1, x.f2, x.f3], ((i + 5 : Nat) : Int), true) := by
  obtain ⟨⟨a0, a1⟩, ⟨b0, b1⟩, ⟨c0, c1⟩, ⟨d0, d1⟩, ⟨e0, e1⟩⟩ := h
  have g : ∀ j, t.data.toList[i + j]? = (enc5 x ++ rest)[j]? := by intro j; rw [← ht, List.getElem?_drop]
  have r0 := readVar_1 (i := i) a0 a1 (by rw [show i = i + 0 from rfl, g 0]; rfl)
  have r1 := readVar_1 (i := i + 1) b0 b1 (by rw [g 1]; rfl)
  have r2 := readVar_1 (i := i + 1 + 1) c0 c1 (by rw [show i + 1 + 1 = i + 2 from rfl, g 2]; rfl)
  have r3 := readVar_1 (i := i + 1 + 1 + 1) d0 d1 (by rw [show i + 1 + 1 + 1 = i + 3 from rfl, g 3]; rfl)
  have r4 := readVar_1 (i := i + 1 + 1 + 1 + 1) e0 e1 (by rw [show i + 1 + 1 + 1 + 1 = i + 4 from rfl, g 4]; rfl)
  simp only [varsB, r0, r1, r2, r3, r4, ↓reduceIte, List.nil_append, List.cons_append]
theorem nodes_back (t : ByteArray) : ∀ (l : List Node) (i : Nat) (acc : List Node), (∀ x ∈ l, Sm x) → t.data.toList.drop i = l.flatMap enc5 → nodesR t l.length (i : Int) acc = some (acc ++ l, ((i + 5 * l.length : Nat) : Int)) := by
  intro l
  induction l with
  | nil => intro i acc _ _; simp [nodesR]
  | cons x xs ih =>
    intro i acc hs ht
    rw [List.flatMap_cons] at ht
    have hv := vars_5 (hs x (List.mem_cons_self ..)) ht
    have hd : t.data.toList.drop (i + 5) = xs.flatMap enc5 := by
      rw [← List.drop_drop, ht]
      simp [enc5]
    have := ih (i + 5) (acc ++ [x]) (fun y hy => hs y (List.mem_cons_of_mem _ hy)) hd
    show nodesR t (xs.length + 1) (i : Int) acc = _
    unfold nodesR
    rw [hv]
    simp only [↓reduceIte]
    rw [show nodeOf [x.f0, x.f1.f0, x.f1.f1, x.f2, x.f3] = x from rfl, this]
    simp
    omega
theorem GoodP.small {most : Int} {l : List Node} (h : GoodP most l) (hl : l.length ≤ 40) : ∀ x ∈ l, Sm x := by
  intro x hx
  obtain ⟨j, hj, rfl⟩ := List.mem_iff_getElem.1 hx
  obtain ⟨h1, _⟩ := h.1 j hj
  have hb := nodeOk_bounds (by omega) h1
  unfold nodeOkB at h1
  rcases kinds_ (h.1 j hj).1 with q | ⟨q, k⟩ | ⟨q, k⟩ | ⟨q, k⟩
  · simp [q] at h1
    unfold Sm
    omega
  · unfold Sm
    omega
  · unfold Sm
    omega
  · simp [q] at h1
    unfold Sm
    omega
theorem text_back {most : Int} {q : List Node} (h : GoodP most q) (h1 : 1 ≤ q.length) (h2 : q.length ≤ 40) : readPolicyB (policyTextB q) = (q, true) := by
  have hs := h.small h2
  have hok := h.ok h1 h2
  have ht : (policyTextB q).data.toList = u8 (q.length : Int) :: q.flatMap enc5 := by
    unfold policyTextB
    rw [if_pos hok, nodesText_toList, vtB_1 (by omega) (by omega)]
    rw [List.singleton_append]
    congr 1
    have : ∀ l : List Node, (∀ x ∈ l, Sm x) → l.flatMap (fun n => (nodeText n).data.toList) = l.flatMap enc5 := by
      intro l
      induction l with
      | nil => intro _; rfl
      | cons x xs ih => intro hx; rw [List.flatMap_cons, List.flatMap_cons, nodeText_5 (hx x (List.mem_cons_self ..)), ih (fun y hy => hx y (List.mem_cons_of_mem _ hy))]
    exact this q hs
  have hlen : ∀ l : List Node, (l.flatMap enc5).length = 5 * l.length := by
    intro l
    induction l with
    | nil => rfl
    | cons x xs ih => rw [List.flatMap_cons, List.length_append, ih]; simp [enc5]; omega
  have hsz : (policyTextB q).size = 1 + 5 * q.length := by
    have : (policyTextB q).data.toList.length = (policyTextB q).size := by rw [Array.length_toList]; rfl
    rw [← this, ht, List.length_cons, hlen]
    omega
  obtain ⟨t, hte⟩ : ∃ t, policyTextB q = t := ⟨_, rfl⟩
  rw [hte] at ht hsz ⊢
  have r0 := readVar_1 (t := t) (i := 0) (x := (q.length : Int)) (by omega) (by omega) (by rw [ht]; rfl)
  have r0' : readVarB t 0 = ((q.length : Int), 1, true) := r0
  unfold readPolicyB
  rw [r0', if_pos ⟨rfl, by show (q.length : Int) ≤ 40; omega⟩]
  show doneI t (nodesR t ((q.length : Int)).toNat ((1 : Nat) : Int) []) = _
  rw [Int.toNat_natCast, nodes_back t q 1 [] hs (by rw [ht]; rfl)]
  unfold doneI
  simp only [List.nil_append, hok, ↓reduceIte, hsz]
theorem text_size {most : Int} {q : List Node} (h : GoodP most q) (h1 : 1 ≤ q.length) (h2 : q.length ≤ 40) : (policyTextB q).size ≤ 1048576 := by
  have hs := h.small h2
  have hok := h.ok h1 h2
  have hlen : ∀ l : List Node, (∀ x ∈ l, Sm x) → (l.flatMap (fun n => (nodeText n).data.toList)).length = 5 * l.length := by
    intro l
    induction l with
    | nil => intro _; rfl
    | cons x xs ih => intro hx; rw [List.flatMap_cons, List.length_append, ih (fun y hy => hx y (List.mem_cons_of_mem _ hy)), nodeText_5 (hx x (List.mem_cons_self ..))]; simp [enc5]; omega
  have : (policyTextB q).data.toList.length = (policyTextB q).size := by rw [Array.length_toList]; rfl
  rw [← this]
  unfold policyTextB
  rw [if_pos hok, nodesText_toList, vtB_1 (by omega) (by omega), List.length_append, hlen q hs]
  simp
  omega
end Q
end Go.Proofs.Ytppdmcimddhbaaa
