/-
Lists of steps: copied, held against each other, and as texts.
-/
import Derived.Test.YtcgnegnljffkmaaKFnExactProofTextPAx0
import Derived.Test.YtcgnegnljffkmaaKFnExactProofTextPAxo
import Derived.Test.YtcgnegnljffkmaaKFnExactProofTextPAx21
import Derived.Test.YtcgnegnljffkmaaKFnExactProofTextPAx22
import Derived.Test.YtcgnegnljffkmaaKFnExactProofTextPAx23
import Derived.Test.YtcgnegnljffkmaaKFnExactProofTextPureFnExactStepText
namespace Go.Proofs.Ytcgnegnljffkmaa
open Go.RowKit Go.Proofs.YtcgnegnljffkmaaW.PrintWords Go.Proofs.YtcgnegnljffkmaaW.PrintLast Go.Proofs.YtcgnegnljffkmaaW.PrintMore Go.Proofs.Ytcgnegnljffkmaa.PA
set_option linter.unusedVariables false
set_option linter.unusedSimpArgs false
namespace Q
abbrev LStep := S72
abbrev Step := S77
def toSt (x : LStep) : Step := ⟨⟨x.f0.f0, ⟨x.f0.f1.f0, x.f0.f1.f1⟩, x.f0.f2, ⟨x.f0.f3.f0, x.f0.f3.f1⟩, ⟨x.f0.f4.f0, x.f0.f4.f1⟩, x.f0.f5, x.f0.f6⟩, ⟨⟨x.f1.f0.f0, x.f1.f0.f1⟩, x.f1.f1⟩, x.f2⟩
def zSt : Step := z77
theorem toStepS (l : List LStep) (h : l.length ≤ 1048576) (hs : ∀ x ∈ l, x.f2.length ≤ 1048576) : Ev (fun k => laws_toStepS.f k l) (l.map toSt) := by
  unfold laws_toStepS.f
  simp only [show (0 : Int) ≤ (l.length : Int) by omega, Int.toNat_natCast, show l.length ≤ 2199023255552 by omega, ↓reduceIte]
  have key := Ev.up0 l.length (fun i k => laws_toStepS.l0 k l ((l.take i).map toSt ++ List.replicate (l.length - i) zSt) i) (fun _ => l.map toSt) ?_ ?_ 0 (Nat.zero_le _)
  · rw [fill_0] at key; exact key
  · intro i hi hn
    refine Ev.succ ?_
    simp only [laws_toStepS.l0, nat_lt, nat_0, hi, fill_len l toSt zSt i (by omega), ↓reduceIte, rd_T72, getD_ _ hi, getDn_ _ hi, up_ (show i < 4611686018427387904 by omega), Int.toNat_natCast]
    refine Ev.bind (toStep_ _ _ _ _ _ _ _ _ _ _ _ _ _ _ (hs _ (List.getElem_mem hi))) ?_
    have := fill_ l toSt zSt i hi
    unfold toSt at this hn ⊢
    rw [this]
    exact hn
  · refine Ev.succ ?_
    simp only [laws_toStepS.l0, nat_lt, Nat.lt_irrefl, ↓reduceIte, fill_n]
    exact Ev.now _
theorem eqStepS (l : List Step) (h : l.length ≤ 1048576) (hs : ∀ x ∈ l, x.f2.length ≤ 1048576) : Ev (fun k => laws_eqStepS.f k l l) true := by
  unfold laws_eqStepS.f
  simp only [↓reduceIte]
  refine Ev.up0 l.length (fun i k => laws_eqStepS.l0 k l l i) (fun _ => true) ?_ ?_ 0 (Nat.zero_le _)
  · intro i hi hn
    refine Ev.succ ?_
    simp only [laws_eqStepS.l0, nat_lt, nat_0, hi, ↓reduceIte, rd_T77, getD_ _ hi, getDn_ _ hi, up_ (show i < 4611686018427387904 by omega)]
    refine Ev.bind (eqStep_ _ _ _ _ _ _ _ _ _ _ _ _ _ _ (hs _ (List.getElem_mem hi))) ?_
    simp only [↓reduceIte]
    exact hn
  · refine Ev.succ ?_
    simp only [laws_eqStepS.l0, nat_lt, Nat.lt_irrefl, ↓reduceIte]
    exact Ev.now _
def szFrom : List LStep → Int → Int
  | [], m => m
  | x :: xs, m => if (x.f2.length : Int) ≤ m then szFrom xs (m - x.f2.length) else -1
theorem szFrom_mem : ∀ (l : List LStep) (m : Int), 0 ≤ szFrom l m → ∀ x ∈ l, (x.f2.length : Int) ≤ m := by
  intro l
  induction l with
  | nil => intro m _ x hx; simp at hx
  | cons y ys ih =>
    intro m h x hx
    unfold szFrom at h
    by_cases h1 : (y.f2.length : Int) ≤ m
    · rw [if_pos h1] at h
      rcases List.mem_cons.1 hx with rfl | hx
      · exact h1
      · have := ih _ h x hx; omega
    · rw [if_neg h1] at h; omega
theorem szStepS (l : List LStep) (h : l.length ≤ 9223372036854775807) (hs : ∀ x ∈ l, x.f2.length ≤ 9223372036854775807) : Ev (fun k => laws_szStepS.f k l 1048576) (if l.length ≤ 1048576 then szFrom l (1048576 - l.length) else -1) := by
  unfold laws_szStepS.f
  rw [w64 (by omega) (by omega)]
  by_cases h1 : l.length ≤ 1048576
  · simp only [h1, ↓reduceIte, show ¬ ((1048576 : Int) - (l.length : Int) < 0) by omega]
    refine Ev.up l.length (fun i (m : Int) k => laws_szStepS.l0 k l m i) (fun i m => szFrom (l.drop i) m) (fun i m => 0 ≤ m ∧ m ≤ 1048576) ?_ ?_ 0 _ (Nat.zero_le _) ⟨by omega, by omega⟩
    · intro i m hi hm ih
      refine Ev.succ ?_
      simp only [laws_szStepS.l0, nat_lt, nat_0, hi, ↓reduceIte, rd_T72, getD_ _ hi, getDn_ _ hi, up_ (show i < 4611686018427387904 by omega), szStep_ _ _ _ _ _ _ _ _ _ _ _ _ _ _ m (hs _ (List.getElem_mem hi)) hm.1 hm.2, Option.bind_some]
      rw [List.drop_eq_getElem_cons hi]
      unfold szFrom
      by_cases h2 : (l[i].f2.length : Int) ≤ m
      · simp only [h2, ↓reduceIte, show ¬ (m - (l[i].f2.length : Int) < 0) by omega]
        exact ih _ ⟨by omega, by omega⟩
      · simp only [h2, ↓reduceIte, show ((-1 : Int) < 0) by omega]
        exact Ev.now _
    · intro m _
      refine Ev.succ ?_
      simp only [laws_szStepS.l0, nat_lt, Nat.lt_irrefl, ↓reduceIte, List.drop_length]
      exact Ev.now _
  · simp only [h1, ↓reduceIte, show ((1048576 : Int) - (l.length : Int) < 0) by omega]
    exact Ev.now _
def stB (x : Step) : ByteArray × Bool := stepTextB x.f0.f0 x.f0.f1.f0 x.f0.f1.f1 x.f0.f2 x.f0.f3.f0 x.f0.f3.f1 x.f0.f4.f0 x.f0.f4.f1 x.f0.f5 x.f0.f6 x.f1.f0.f0 x.f1.f0.f1 x.f1.f1 x.f2
def proofB : List Step → ByteArray → ByteArray × Bool
  | [], acc => (acc, true)
  | x :: xs, acc => if (stB x).2 = true then proofB xs (acc ++ (stB x).1) else (⟨#[]⟩, false)
def proofTextB (l : List Step) : ByteArray × Bool := if l.length ≤ 200 then proofB l ⟨#[]⟩ else (⟨#[]⟩, false)
theorem fromB_size : ∀ (l : List Int) (s : ByteArray), (fromB l s).1.size ≤ s.size + l.length * 10000 := by
  intro l
  induction l with
  | nil => intro s; simp [fromB]
  | cons x xs ih =>
    intro s
    unfold fromB
    cases hb : inB x 0 199
    · simp only [Bool.false_eq_true, ↓reduceIte]
      exact Nat.zero_le _
    · simp only [↓reduceIte]
      obtain ⟨b0, b1⟩ := inB_iff.1 hb
      have := ih (s ++ vtB x)
      have h2 := vtB_mid b0 (by omega)
      rw [ByteArray.size_append] at this
      rw [List.length_cons, Nat.add_mul]
      omega
theorem stB_size (x : Step) : (stB x).1.size ≤ 1000000 := by
  unfold stB stepTextB
  split
  · rename_i h
    simp only [Bool.and_eq_true, decide_eq_true_eq] at h
    obtain ⟨⟨⟨h1, h2⟩, h3⟩, h4⟩ := h
    obtain ⟨z0, z1⟩ := credText_size h1
    obtain ⟨y0, y1⟩ := inB_iff.1 h3
    have s0 := vtB_100 z1
    have s1 := vtB_mid y0 (by omega)
    have s2 := vtB_100 (n := x.f2.length) (by omega)
    have := fromB_size x.f2 (((vtB (credTextB x.f0.f0 x.f0.f1.f0 x.f0.f1.f1 x.f0.f2 x.f0.f3.f0 x.f0.f3.f1 x.f0.f4.f0 x.f0.f4.f1 x.f0.f5 x.f0.f6).size ++ credTextB x.f0.f0 x.f0.f1.f0 x.f0.f1.f1 x.f0.f2 x.f0.f3.f0 x.f0.f3.f1 x.f0.f4.f0 x.f0.f4.f1 x.f0.f5 x.f0.f6) ++ vtB x.f1.f1) ++ vtB x.f2.length)
    rw [ByteArray.size_append, ByteArray.size_append, ByteArray.size_append] at this
    omega
  · exact Nat.zero_le _
theorem spec_ProofText (l : List Step) : Ev (fun k => spec_ProofText.f k l) (proofTextB l) := by
  unfold spec_ProofText.f proofTextB
  by_cases h : l.length ≤ 200
  · simp only [h, ↓reduceIte, show ¬ ((l.length : Int) > 200) by omega]
    refine Ev.up l.length (fun i (s : ByteArray) k => spec_ProofText.l0 k l s i) (fun i s => proofB (l.drop i) s) (fun i s => s.size ≤ i * 1000000) ?_ ?_ 0 _ (Nat.zero_le _) (by decide)
    · intro i s hi hs ih
      refine Ev.succ ?_
      simp only [spec_ProofText.l0, nat_lt, nat_0, hi, ↓reduceIte, rd_T77, getD_ _ hi, getDn_ _ hi, up_ (show i < 4611686018427387904 by omega)]
      refine Ev.bind (a := stB l[i]) (spec_StepText _ _ _ _ _ _ _ _ _ _ _ _ _ _) ?_
      rw [List.drop_eq_getElem_cons hi]
      unfold proofB
      have s0 := stB_size l[i]
      cases hb : (stB l[i]).2
      · simp only [Bool.false_eq_true, ↓reduceIte]
        exact Ev.now _
      · simp only [↓reduceIte, show s.size + (stB l[i]).1.size ≤ 9223372036854775807 by omega]
        exact ih _ (by rw [ByteArray.size_append, Nat.add_mul]; omega)
    · intro s _
      refine Ev.succ ?_
      simp only [spec_ProofText.l0, nat_lt, Nat.lt_irrefl, ↓reduceIte, List.drop_length]
      exact Ev.now _
  · simp only [h, ↓reduceIte, show ((l.length : Int) > 200) by omega]
    exact Ev.now _
theorem impl_ProofText (l : List Step) : Ev (fun k => impl_ProofText.f k l) (proofTextB l) := by
  unfold impl_ProofText.f proofTextB
  by_cases h : l.length ≤ 200
  · simp only [h, ↓reduceIte, show ¬ ((l.length : Int) > 200) by omega]
    refine Ev.up l.length (fun i (s : ByteArray) k => impl_ProofText.l0 k s l l.length i) (fun i s => proofB (l.drop i) s) (fun i s => s.size ≤ i * 1000000) ?_ ?_ 0 _ (Nat.zero_le _) (by decide)
    · intro i s hi hs ih
      refine Ev.succ ?_
      simp only [impl_ProofText.l0, nat_lt, nat_0, hi, ↓reduceIte, rd_T77, getD_ _ hi, getDn_ _ hi, up_ (show i < 4611686018427387904 by omega)]
      refine Ev.bind (a := stB l[i]) (impl_StepText _ _ _ _ _ _ _ _ _ _ _ _ _ _) ?_
      rw [List.drop_eq_getElem_cons hi]
      unfold proofB
      have s0 := stB_size l[i]
      cases hb : (stB l[i]).2
      · simp only [Bool.false_eq_true, ↓reduceIte]
        exact Ev.now _
      · simp only [↓reduceIte, show s.size + (stB l[i]).1.size ≤ 9223372036854775807 by omega]
        exact ih _ (by rw [ByteArray.size_append, Nat.add_mul]; omega)
    · intro s _
      refine Ev.succ ?_
      simp only [impl_ProofText.l0, nat_lt, Nat.lt_irrefl, ↓reduceIte, List.drop_length]
      exact Ev.now _
  · simp only [h, ↓reduceIte, show ((l.length : Int) > 200) by omega]
    exact Ev.now _
end Q
theorem Pure.FnExactProofText : ∀ (x0 : List (S72)), All G72 x0 → ∃ k, laws_FnExactProofText.f k x0 = some true := by
  intro x0 hg
  have hl : x0.length ≤ 9223372036854775807 := hg.1
  have hs : ∀ x ∈ x0, x.f2.length ≤ 9223372036854775807 := fun x hx => (hg.2 x hx).2.2.1
  refine Q.Ev.get (g := fun k => laws_FnExactProofText.f k x0) ?_
  unfold laws_FnExactProofText.f
  refine Ev.bind (Q.szStepS x0 hl hs) ?_
  by_cases h1 : x0.length ≤ 1048576
  · simp only [h1, ↓reduceIte]
    by_cases h2 : Q.szFrom x0 (1048576 - x0.length) < 0
    · simp only [h2, ↓reduceIte]; exact Ev.now _
    · simp only [h2, ↓reduceIte]
      have h3 : ∀ x ∈ x0, x.f2.length ≤ 1048576 := fun x hx => by have := Q.szFrom_mem x0 (1048576 - x0.length) (by omega) x hx; omega
      have h4 : (x0.map Q.toSt).length ≤ 1048576 := by rw [List.length_map]; exact h1
      have h5 : ∀ x ∈ x0.map Q.toSt, x.f2.length ≤ 1048576 := by
        intro x hx
        obtain ⟨y, hy, rfl⟩ := List.mem_map.1 hx
        exact h3 y hy
      refine Ev.bind (Q.toStepS _ h1 h3) ?_
      refine Ev.bind (Q.spec_ProofText _) ?_
      refine Ev.bind (Q.toStepS _ h1 h3) ?_
      refine Ev.bind (Q.impl_ProofText _) ?_
      simp only [bne_self_eq_false, ↓reduceIte]
      refine Q.Ev.succ ?_
      simp only [laws_FnExactProofText.j0, Bool.false_eq_true, ↓reduceIte]
      refine Ev.bind (Q.toStepS _ h1 h3) ?_
      refine Ev.bind (Q.eqStepS _ h4 h5) ?_
      simp only [↓reduceIte]
      exact Ev.now _
  · simp only [h1, ↓reduceIte, show ((-1 : Int) < 0) by omega]
    exact Ev.now _
end Go.Proofs.Ytcgnegnljffkmaa
