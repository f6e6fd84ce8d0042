/-
Lists of steps: copied, held against each other, and as texts.
-/
import Derived.Test.YteppfdkfikeclaaKRQ5
namespace Go.Proofs.Yteppfdkfikeclaa
open Go.RowKit Go.Proofs.YteppfdkfikeclaaW.PrintWords Go.Proofs.YteppfdkfikeclaaW.PrintLast Go.Proofs.YteppfdkfikeclaaW.PrintMore Go.Proofs.Yteppfdkfikeclaa.PL
set_option linter.unusedVariables false
set_option linter.unusedSimpArgs false
namespace Q
abbrev Step := S36
theorem eqStepS (l : List Step) (h : l.length ≤ 1048576) (hs : ∀ x ∈ l, x.f2.length ≤ 1048576) : Ev (fun k => laws_eqStepS.f k l l) true := by
 unfold laws_eqStepS.f
 simp only [↓reduceIte]
 refine Ev.up0 l.length (fun i k => laws_eqStepS.l0 k l l i) (fun _ => true) ?_ ?_ 0 (Nat.zero_le _)
 ·intro i hi hn
  refine Ev.succ ?_
  simp only [laws_eqStepS.l0, nat_lt, nat_0, hi, ↓reduceIte, rd_T36, getD_ _ hi, getDn_ _ hi, up_ (show i < 4611686018427387904 by omega)]
  refine Ev.bind (eqStep_ _ _ _ _ _ _ _ _ _ _ _ _ _ _ (hs _ (List.getElem_mem hi))) ?_
  simp only [↓reduceIte]
  exact hn
 ·refine Ev.succ ?_
  simp only [laws_eqStepS.l0, nat_lt, Nat.lt_irrefl, ↓reduceIte]
  exact Ev.now _
def stB (x : Step) : ByteArray × Bool := stepTextB x.f0.f0 x.f0.f1.f0 x.f0.f1.f1 x.f0.f2 x.f0.f3.f0 x.f0.f3.f1 x.f0.f4.f0 x.f0.f4.f1 x.f0.f5 x.f0.f6 x.f1.f0.f0 x.f1.f0.f1 x.f1.f1 x.f2
def proofB : List Step → ByteArray → ByteArray × Bool
 | [], acc => (acc, true)
 | x :: xs, acc => if (stB x).2 = true then proofB xs (acc ++ (stB x).1) else (⟨#[]⟩, false)
def proofTextB (l : List Step) : ByteArray × Bool := if l.length ≤ 200 then proofB l ⟨#[]⟩ else (⟨#[]⟩, false)
theorem fromB_size : ∀ (l : List Int) (s : ByteArray), (fromB l s).1.size ≤ s.size + l.length * 10000 := by
 intro l
 induction l with
 | nil => intro s; simp [fromB]
 | cons x xs ih =>
  intro s
  unfold fromB
  cases hb : inB x 0 199
  ·simp only [Bool.false_eq_true, ↓reduceIte]
   exact Nat.zero_le _
  ·simp only [↓reduceIte]
   obtain ⟨b0, b1⟩ := inB_iff.1 hb
   have := ih (s ++ vtB x)
   have h2 := vtB_mid b0 (by omega)
   rw [ByteArray.size_append] at this
   rw [List.length_cons, Nat.add_mul]
   omega
theorem stB_size (x : Step) : (stB x).1.size ≤ 1000000 := by
 unfold stB stepTextB
 split
 ·rename_i h
  simp only [Bool.and_eq_true, decide_eq_true_eq] at h
  obtain ⟨⟨⟨h1, h2⟩, h3⟩, h4⟩ := h
  obtain ⟨z0, z1⟩ := credText_size h1
  obtain ⟨y0, y1⟩ := inB_iff.1 h3
  have s0 := vtB_100 z1
  have s1 := vtB_mid y0 (by omega)
  have s2 := vtB_100 (n := x.f2.length) (by omega)
  have := fromB_size x.f2 (((vtB (credTextB x.f0.f0 x.f0.f1.f0 x.f0.f1.f1 x.f0.f2 x.f0.f3.f0 x.f0.f3.f1 x.f0.f4.f0 x.f0.f4.f1 x.f0.f5 x.f0.f6).size ++ credTextB x.f0.f0 x.f0.f1.f0 x.f0.f1.f1 x.f0.f2 x.f0.f3.f0 x.f0.f3.f1 x.f0.f4.f0 x.f0.f4.f1 x.f0.f5 x.f0.f6) ++ vtB x.f1.f1) ++ vtB x.f2.length)
  rw [ByteArray.size_append, ByteArray.size_append, ByteArray.size_append] at this
  omega
 ·exact Nat.zero_le _
theorem spec_ProofText (l : List Step) : Ev (fun k => spec_ProofText.f k l) (proofTextB l) := by
 unfold spec_ProofText.f proofTextB
 by_cases h : l.length ≤ 200
 ·simp only [h, ↓reduceIte, show ¬ ((l.length : Int) > 200) by omega]
  refine Ev.up l.length (fun i (s : ByteArray) k => spec_ProofText.l0 k l s i) (fun i s => proofB (l.drop i) s) (fun i s => s.size ≤ i * 1000000) ?_ ?_ 0 _ (Nat.zero_le _) (by decide)
  ·intro i s hi hs ih
   refine Ev.succ ?_
   simp only [spec_ProofText.l0, nat_lt, nat_0, hi, ↓reduceIte, rd_T36, getD_ _ hi, getDn_ _ hi, up_ (show i < 4611686018427387904 by omega)]
   refine Ev.bind (a := stB l[i]) (spec_StepText _ _ _ _ _ _ _ _ _ _ _ _ _ _) ?_
   rw [List.drop_eq_getElem_cons hi]
   unfold proofB
   have s0 := stB_size l[i]
   cases hb : (stB l[i]).2
   ·simp only [Bool.false_eq_true, ↓reduceIte]
    exact Ev.now _
   ·simp only [↓reduceIte, show s.size + (stB l[i]).1.size ≤ 9223372036854775807 by omega]
    exact ih _ (by rw [ByteArray.size_append, Nat.add_mul]; omega)
  ·intro s _
   refine Ev.succ ?_
   simp only [spec_ProofText.l0, nat_lt, Nat.lt_irrefl, ↓reduceIte, List.drop_length]
   exact Ev.now _
 ·simp only [h, ↓reduceIte, show ((l.length : Int) > 200) by omega]
  exact Ev.now _
end Q
end Go.Proofs.Yteppfdkfikeclaa
