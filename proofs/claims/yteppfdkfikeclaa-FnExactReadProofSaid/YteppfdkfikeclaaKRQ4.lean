/-
Words and lists of numbers: what is copied is the same list again; a word's text is one plain function.
-/
import Derived.Test.YteppfdkfikeclaaKRPLx11
import Derived.Test.YteppfdkfikeclaaKRQ0
namespace Go.Proofs.Yteppfdkfikeclaa
open Go.RowKit Go.Proofs.YteppfdkfikeclaaW.PrintWords Go.Proofs.YteppfdkfikeclaaW.PrintLast Go.Proofs.YteppfdkfikeclaaW.PrintMore Go.Proofs.Yteppfdkfikeclaa.PL
set_option linter.unusedVariables false
set_option linter.unusedSimpArgs false
namespace Q
theorem rd_ {l : List Int} {i : Nat} (h : i < l.length) : rd l (i : Int) = l[i] := by unfold rd; simp [h]
theorem eqIntS (l : List Int) (h : l.length ≤ 1048576) : Ev (fun k => laws_eqIntS.f k l l) true := by
 unfold laws_eqIntS.f
 simp only [↓reduceIte]
 refine Ev.up0 l.length (fun i k => laws_eqIntS.l0 k l l i) (fun _ => true) ?_ ?_ 0 (Nat.zero_le _)
 ·intro i hi hn
  refine Ev.succ ?_
  simp only [laws_eqIntS.l0, nat_lt, nat_0, hi, ↓reduceIte, up_ (show i < 4611686018427387904 by omega)]
  exact hn
 ·refine Ev.succ ?_
  simp only [laws_eqIntS.l0, nat_lt, Nat.lt_irrefl, ↓reduceIte]
  exact Ev.now _
theorem eqRole_ (a b : Int) : laws_eqRole.f a b a b = some true := by unfold laws_eqRole.f; simp
theorem eqCred_ (a b c d e f g h i j : Int) : laws_eqCred.f a b c d e f g h i j a b c d e f g h i j = some true := by unfold laws_eqCred.f; simp [eqRole_]
theorem eqFact_ (a b c : Int) : laws_eqFact.f a b c a b c = some true := by unfold laws_eqFact.f; simp [eqRole_]
def catNums (l : List Int) (acc : ByteArray) : ByteArray := l.foldl (fun a n => a ++ vtB n) acc
def credTextB (k a b w c d e f u n : Int) : ByteArray := if credOkB k a b w c d e f u n = true then catNums [k, a, b, w, c, d, e, f, u, n] ⟨#[]⟩ else ⟨#[]⟩
theorem vtB_mid {n : Int} (h0 : 0 ≤ n) (h1 : n ≤ 9999) : (vtB n).size ≤ 10000 := by have := vtB_size n h0; omega
theorem vt_pos : ∀ (m n : Nat), n ≤ m → 1 ≤ (vt n).length := by
 intro m n _
 by_cases h1 : n > 127
 ·rw [vt_big h1]; simp
 ·rw [vt_small h1]; simp
theorem vtB_pos (n : Int) : 1 ≤ (vtB n).size := by unfold vtB; rw [strOfNums_size]; exact vt_pos _ _ (Nat.le_refl _)
theorem empty_app (b : ByteArray) : (⟨#[]⟩ : ByteArray) ++ b = b := ByteArray.empty_append
theorem credText_size {k a b w c d e f u n : Int} (h : credOkB k a b w c d e f u n = true) : 1 ≤ (credTextB k a b w c d e f u n).size ∧ (credTextB k a b w c d e f u n).size ≤ 100000 := by
 obtain ⟨h0, h1, h2, h3, h4, h5, h6, h7, h8, h9⟩ := credOk_bounds h
 unfold credTextB
 rw [if_pos h]
 have := vtB_pos k
 have s0 := vtB_mid (n := k) (by omega) (by omega)
 have s1 := vtB_mid (n := a) (by omega) (by omega)
 have s2 := vtB_mid (n := b) (by omega) (by omega)
 have s3 := vtB_mid (n := w) (by omega) (by omega)
 have s4 := vtB_mid (n := c) (by omega) (by omega)
 have s5 := vtB_mid (n := d) (by omega) (by omega)
 have s6 := vtB_mid (n := e) (by omega) (by omega)
 have s7 := vtB_mid (n := f) (by omega) (by omega)
 have s8 := vtB_mid (n := u) (by omega) (by omega)
 have s9 := vtB_mid (n := n) (by omega) (by omega)
 simp only [catNums, List.foldl, empty_app, ByteArray.size_append]
 omega
theorem spec_CredText (k a b w c d e f u n : Int) : Ev (fun q => spec_CredText.f q k a b w c d e f u n) (credTextB k a b w c d e f u n) := by
 unfold spec_CredText.f credTextB
 refine Ev.bind (spec_CredOk k a b w c d e f u n) ?_
 cases h : credOkB k a b w c d e f u n
 ·exact Ev.now _
 ·obtain ⟨h0, h1, h2, h3, h4, h5, h6, h7, h8, h9⟩ := credOk_bounds h
  have s0 := vtB_mid (n := k) (by omega) (by omega)
  have s1 := vtB_mid (n := a) (by omega) (by omega)
  have s2 := vtB_mid (n := b) (by omega) (by omega)
  have s3 := vtB_mid (n := w) (by omega) (by omega)
  have s4 := vtB_mid (n := c) (by omega) (by omega)
  have s5 := vtB_mid (n := d) (by omega) (by omega)
  have s6 := vtB_mid (n := e) (by omega) (by omega)
  have s7 := vtB_mid (n := f) (by omega) (by omega)
  have s8 := vtB_mid (n := u) (by omega) (by omega)
  have s9 := vtB_mid (n := n) (by omega) (by omega)
  simp only [↓reduceIte, catNums, List.foldl, empty_app, ByteArray.size_append]
  refine Ev.bind (spec_l01Var _ (by omega) (by omega)) ?_
  refine Ev.bind (spec_l01Var _ (by omega) (by omega)) ?_
  refine Ev.ite (fun _ => ?_) (fun h => absurd h (by omega))
  refine Ev.bind (spec_l01Var _ (by omega) (by omega)) ?_
  refine Ev.ite (fun _ => ?_) (fun h => absurd h (by omega))
  refine Ev.bind (spec_l01Var _ (by omega) (by omega)) ?_
  refine Ev.ite (fun _ => ?_) (fun h => absurd h (by omega))
  refine Ev.bind (spec_l01Var _ (by omega) (by omega)) ?_
  refine Ev.ite (fun _ => ?_) (fun h => absurd h (by omega))
  refine Ev.bind (spec_l01Var _ (by omega) (by omega)) ?_
  refine Ev.ite (fun _ => ?_) (fun h => absurd h (by omega))
  refine Ev.bind (spec_l01Var _ (by omega) (by omega)) ?_
  refine Ev.ite (fun _ => ?_) (fun h => absurd h (by omega))
  refine Ev.bind (spec_l01Var _ (by omega) (by omega)) ?_
  refine Ev.ite (fun _ => ?_) (fun h => absurd h (by omega))
  refine Ev.bind (spec_l01Var _ (by omega) (by omega)) ?_
  refine Ev.ite (fun _ => ?_) (fun h => absurd h (by omega))
  refine Ev.bind (spec_l01Var _ (by omega) (by omega)) ?_
  refine Ev.ite (fun _ => ?_) (fun h => absurd h (by omega))
  exact Ev.now _
theorem impl_nums (l : List Int) (hl : l.length ≤ 1000) (hn : ∀ x ∈ l, 0 ≤ x ∧ x ≤ 9999) (s : ByteArray) (hs : s.size ≤ 100000) : Ev (fun k => impl_CredText.l0 k s l l.length 0) (catNums l s) := by
 have key := Ev.up l.length (fun i (s : ByteArray) k => impl_CredText.l0 k s l l.length i) (fun i s => catNums (l.drop i) s) (fun i s => s.size ≤ 100000 + i * 10000) ?_ ?_ 0 s (Nat.zero_le _) (by omega)
 ·exact key
 ·intro i s hi hs ih
  refine Ev.succ ?_
  obtain ⟨b0, b1⟩ := hn l[i] (List.getElem_mem hi)
  have s0 := vtB_mid b0 b1
  simp only [impl_CredText.l0, nat_lt, nat_0, hi, ↓reduceIte, rd_ hi, up_ (show i < 4611686018427387904 by omega)]
  refine Ev.bind (impl_varText _ (by omega) (by omega)) ?_
  simp only [show s.size + (vtB l[i]).size ≤ 9223372036854775807 by omega, ↓reduceIte]
  rw [List.drop_eq_getElem_cons hi]
  exact ih (s ++ vtB l[i]) (by simp only [ByteArray.size_append]; omega)
 ·intro s _
  refine Ev.succ ?_
  simp only [impl_CredText.l0, nat_lt, Nat.lt_irrefl, ↓reduceIte, List.drop_length]
  exact Ev.now _
theorem impl_CredText (k a b w c d e f u n : Int) : Ev (fun q => impl_CredText.f q k a b w c d e f u n) (credTextB k a b w c d e f u n) := by
 unfold impl_CredText.f credTextB
 refine Ev.bind (impl_CredOk k a b w c d e f u n) ?_
 cases h : credOkB k a b w c d e f u n
 ·exact Ev.now _
 ·obtain ⟨h0, h1, h2, h3, h4, h5, h6, h7, h8, h9⟩ := credOk_bounds h
  simp only [↓reduceIte, Option.bind_some]
  refine impl_nums [k, a, b, w, c, d, e, f, u, n] (by simp) (fun x hx => ?_) _ (by decide)
  simp only [List.mem_cons, List.not_mem_nil, or_false] at hx
  rcases hx with rfl | rfl | rfl | rfl | rfl | rfl | rfl | rfl | rfl | rfl <;> omega
end Q
end Go.Proofs.Yteppfdkfikeclaa
