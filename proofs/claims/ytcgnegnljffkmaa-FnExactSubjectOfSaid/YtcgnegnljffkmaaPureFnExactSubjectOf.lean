/-
SubjectOf: the reference's and the program's are one plain function of a word, and so the law answers true.
-/
import Derived.Test.YtcgnegnljffkmaaPAx0
import Derived.Test.YtcgnegnljffkmaaPAxo
import Derived.Test.YtcgnegnljffkmaaPAx3
import Derived.Test.YtcgnegnljffkmaaPAx4
import Derived.Test.YtcgnegnljffkmaaPAx5
import Derived.Test.YtcgnegnljffkmaaQ0
namespace Go.Proofs.Ytcgnegnljffkmaa
open Go.RowKit Go.Proofs.YtcgnegnljffkmaaW.PrintWords Go.Proofs.YtcgnegnljffkmaaW.PrintLast Go.Proofs.YtcgnegnljffkmaaW.PrintMore Go.Proofs.Ytcgnegnljffkmaa.PA
set_option linter.unusedVariables false
set_option linter.unusedSimpArgs false
namespace Q
theorem toCred_ (a b c d e f g h i j : Int) : laws_toCred.f a b c d e f g h i j = some (a, b, c, d, e, f, g, h, i, j) := rfl
def subjB (k a b w c d e f u n : Int) : ByteArray :=
  if credOkB k a b w c d e f u n = true then (if k = 1 then vtB 1 ++ vtB w else (vtB 2 ++ vtB c) ++ vtB d) else ⟨#[]⟩
theorem vtB_room {n : Int} (h0 : 0 ≤ n) (h1 : n ≤ 1000000000000) : (vtB n).size ≤ 1000000000001 := by have := vtB_size n h0; omega
theorem spec_SubjectOf (k a b w c d e f u n : Int) : Ev (fun q => spec_SubjectOf.f q k a b w c d e f u n) (subjB k a b w c d e f u n) := by
  unfold spec_SubjectOf.f subjB
  refine Ev.bind (spec_CredOk k a b w c d e f u n) ?_
  cases hc : credOkB k a b w c d e f u n
  · exact Ev.now _
  · obtain ⟨_, _, _, hw, hcc, hd, _, _, _, _⟩ := credOk_bounds hc
    have s1 := vtB_room (n := 1) (by omega) (by omega)
    have s2 := vtB_room (n := 2) (by omega) (by omega)
    have s3 := vtB_room (n := w) (by omega) (by omega)
    have s4 := vtB_room (n := c) (by omega) (by omega)
    have s5 := vtB_room (n := d) (by omega) (by omega)
    by_cases h1 : k = 1
    · simp only [h1, ↓reduceIte]
      refine Ev.bind (a := vtB 1 ++ vtB w) ?_ (Ev.now _)
      unfold spec_l17Who.f
      refine Ev.bind (spec_l01Var 1 (by omega) (by omega)) ?_
      refine Ev.bind (spec_l01Var w (by omega) (by omega)) ?_
      simp only [show (vtB 1).size + (vtB w).size ≤ 9223372036854775807 by omega, ↓reduceIte]
      exact Ev.now _
    · simp only [h1, ↓reduceIte]
      refine Ev.bind (a := (vtB 2 ++ vtB c) ++ vtB d) ?_ (Ev.now _)
      unfold spec_l17Role.f
      refine Ev.bind (spec_l01Var 2 (by omega) (by omega)) ?_
      refine Ev.bind (spec_l01Var c (by omega) (by omega)) ?_
      simp only [show (vtB 2).size + (vtB c).size ≤ 9223372036854775807 by omega, ↓reduceIte]
      refine Ev.bind (spec_l01Var d (by omega) (by omega)) ?_
      simp only [show (vtB 2 ++ vtB c).size + (vtB d).size ≤ 9223372036854775807 by rw [ByteArray.size_append]; omega, ↓reduceIte]
      exact Ev.now _
theorem impl_SubjectOf (k a b w c d e f u n : Int) : Ev (fun q => impl_SubjectOf.f q k a b w c d e f u n) (subjB k a b w c d e f u n) := by
  unfold impl_SubjectOf.f subjB
  refine Ev.bind (impl_CredOk k a b w c d e f u n) ?_
  cases hc : credOkB k a b w c d e f u n
  · exact Ev.now _
  · obtain ⟨_, _, _, hw, hcc, hd, _, _, _, _⟩ := credOk_bounds hc
    have s1 := vtB_room (n := 1) (by omega) (by omega)
    have s2 := vtB_room (n := 2) (by omega) (by omega)
    have s3 := vtB_room (n := w) (by omega) (by omega)
    have s4 := vtB_room (n := c) (by omega) (by omega)
    have s5 := vtB_room (n := d) (by omega) (by omega)
    by_cases h1 : k = 1
    · simp only [h1, ↓reduceIte]
      refine Ev.bind (a := vtB 1 ++ vtB w) ?_ (Ev.now _)
      unfold impl_personSubject.f
      refine Ev.bind (impl_varText 1 (by omega) (by omega)) ?_
      refine Ev.bind (impl_varText w (by omega) (by omega)) ?_
      simp only [show (vtB 1).size + (vtB w).size ≤ 9223372036854775807 by omega, ↓reduceIte]
      exact Ev.now _
    · simp only [h1, ↓reduceIte]
      refine Ev.bind (a := (vtB 2 ++ vtB c) ++ vtB d) ?_ (Ev.now _)
      unfold impl_roleSubject.f
      refine Ev.bind (impl_varText 2 (by omega) (by omega)) ?_
      refine Ev.bind (impl_varText c (by omega) (by omega)) ?_
      simp only [show (vtB 2).size + (vtB c).size ≤ 9223372036854775807 by omega, ↓reduceIte]
      refine Ev.bind (impl_varText d (by omega) (by omega)) ?_
      simp only [show (vtB 2 ++ vtB c).size + (vtB d).size ≤ 9223372036854775807 by rw [ByteArray.size_append]; omega, ↓reduceIte]
      exact Ev.now _
end Q
theorem Pure.FnExactSubjectOf : ∀ (x0 : S25), G25 x0 → ∃ k, laws_FnExactSubjectOf.f k x0.f0 x0.f1.f0 x0.f1.f1 x0.f2 x0.f3.f0 x0.f3.f1 x0.f4.f0 x0.f4.f1 x0.f5 x0.f6 = some true := by
  intro x0 _
  refine Q.Ev.get (g := fun k => laws_FnExactSubjectOf.f k x0.f0 x0.f1.f0 x0.f1.f1 x0.f2 x0.f3.f0 x0.f3.f1 x0.f4.f0 x0.f4.f1 x0.f5 x0.f6) ?_
  unfold laws_FnExactSubjectOf.f
  simp only [Q.toCred_, Option.bind_some]
  refine Ev.bind (Q.spec_SubjectOf _ _ _ _ _ _ _ _ _ _) ?_
  refine Ev.bind (Q.impl_SubjectOf _ _ _ _ _ _ _ _ _ _) ?_
  simp only [↓reduceIte]
  exact Ev.now _
end Go.Proofs.Ytcgnegnljffkmaa
