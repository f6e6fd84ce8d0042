/-
The program tells the least sizes, fact by fact.
-/
import Derived.Test.YtljhfomkakhflaaKEPAx20
import Derived.Test.YtljhfomkakhflaaKEQ31
namespace Go.Proofs.Ytljhfomkakhflaa
open Go.RowKit Go.Proofs.YtljhfomkakhflaaW.PrintWords Go.Proofs.YtljhfomkakhflaaW.PrintLast Go.Proofs.YtljhfomkakhflaaW.PrintMore Go.Proofs.Ytljhfomkakhflaa.PA
set_option linter.unusedVariables false
set_option linter.unusedSimpArgs false
namespace Q
theorem impl_costAt (list : List Cr) (hl : list.length ≤ 1048576) (F : List Fc) (hF : F.length ≤ 144) (r : List Int) (hr : r.length = F.length) : ∀ (C : List S47), C = (List.range F.length).map (fun i => (⟨rd_T28 F (i : Nat), rd r (i : Nat)⟩ : S47)) →
  Ev (fun k => impl_CostsOf.l0 k r [] F F.length 0) C := by
 rintro C rfl
 have key := Ev.up F.length (fun i (s : List S47) k => impl_CostsOf.l0 k r s F F.length i) (fun i s => s ++ ((List.range F.length).drop i).map (fun i => (⟨rd_T28 F (i : Nat), rd r (i : Nat)⟩ : S47))) (fun i s => s.length ≤ i) ?_ ?_ 0 [] (Nat.zero_le _) (by simp)
 ·exact key
 ·intro i s hi hs ih
  refine Ev.succ ?_
  simp only [impl_CostsOf.l0, nat_lt, nat_0, hi, hr, ↓reduceIte, up_ (show i < 4611686018427387904 by omega), show s.length < 4398046511104 by omega]
  rw [List.drop_eq_getElem_cons (by simpa using hi), List.map_cons, List.getElem_range]
  have h2 := ih (s ++ [⟨rd_T28 F (i : Nat), rd r (i : Nat)⟩]) (by simp; omega)
  rw [List.append_assoc, List.singleton_append] at h2
  exact h2
 ·intro s hs
  refine Ev.succ ?_
  simp only [impl_CostsOf.l0, nat_lt, Nat.lt_irrefl, ↓reduceIte]
  rw [show (List.range F.length).drop F.length = [] from List.drop_eq_nil_of_le (by simp), List.map_nil, List.append_nil]
  exact Ev.now _
def costL (F : List Fc) (r : List Int) : List S47 := (List.range F.length).map (fun i => (⟨rd_T28 F (i : Nat), rd r (i : Nat)⟩ : S47))
theorem costL_len (F : List Fc) (r : List Int) : (costL F r).length = F.length := by simp [costL]
theorem impl_Costs (list : List Cr) (hl : list.length ≤ 1048576) (r : List Int) (hr : r.length = (factsF list).length) (he : Ev (fun k => impl_costs.f k list (factsF list)) r) : Ev (fun k => impl_CostsOf.f k list) (costL (factsF list) r) := by
 unfold impl_CostsOf.f
 refine Ev.bind (impl_Facts list hl) ?_
 refine Ev.bind he ?_
 exact impl_costAt list hl _ (factsF_len list) r hr _ rfl
end Q
end Go.Proofs.Ytljhfomkakhflaa
