/-
FnExactSubjectPlace: the law's plain answer is always true.
-/
import Derived.Test.YtingghknjicpjaaKPQ81
namespace Go.Proofs.Ytingghknjicpjaa
open Go.RowKit Go.Proofs.YtingghknjicpjaaW.PrintWords Go.Proofs.YtingghknjicpjaaW.PrintLast Go.Proofs.YtingghknjicpjaaW.PrintMore Go.Proofs.Ytingghknjicpjaa.PB PS
set_option linter.unusedVariables false
set_option linter.unusedSimpArgs false
theorem Pure.FnExactSubjectPlace : ∀ (x0 : ByteArray), Short x0 → ∃ k, laws_FnExactSubjectPlace.f k x0 = some true := by
 intro x0 _
 refine Q.Ev.get (g := fun k => laws_FnExactSubjectPlace.f k x0) ?_
 unfold laws_FnExactSubjectPlace.f
 by_cases h : (x0.size : Int) > 1048576
 ·simp only [h, ↓reduceIte]
  exact Ev.now _
 ·simp only [h, ↓reduceIte]
  have hs : ((⟨#[106]⟩ : ByteArray) ++ x0).size ≤ 2097152 := by
   rw [ByteArray.size_append]
   show 1 + x0.size ≤ _
   omega
  have hd := Q.digest_ok _ hs
  have h1 : 1 + x0.size ≤ 9223372036854775807 := by omega
  have h0 : (0 : Int) < ((digS ((⟨#[106]⟩ : ByteArray) ++ x0)).size : Int) := by
   unfold digS
   rw [strOfNums_size, oD_len]
   omega
  refine Ev.bind (a := wrap64 (bt (digS ((⟨#[106]⟩ : ByteArray) ++ x0)) 0)) ?_ (Ev.bind (a := wrap64 (bt (digS ((⟨#[106]⟩ : ByteArray) ++ x0)) 0)) ?_ ?_)
  ·unfold spec_SubjectPlace.f spec_Digest.f
   simp only [h1, hs, h0, ↓reduceIte, Option.bind_some]
   exact Ev.now _
  ·unfold impl_SubjectPlace.f
   simp only [h1, ↓reduceIte]
   refine Ev.bind hd ?_
   simp only [h0, ↓reduceIte]
   exact Ev.now _
  ·simp only [↓reduceIte]
   exact Ev.now _
end Go.Proofs.Ytingghknjicpjaa
