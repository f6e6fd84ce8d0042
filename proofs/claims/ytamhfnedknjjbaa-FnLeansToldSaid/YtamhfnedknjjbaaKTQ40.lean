/-
Draws of words with a role, a place or somebody; lists of roles and of words that are the same.
-/
import Derived.Test.YtamhfnedknjjbaaKTQ39
namespace Go.Proofs.Ytamhfnedknjjbaa
open Go.RowKit Go.Proofs.YtamhfnedknjjbaaW.PrintWords Go.Proofs.YtamhfnedknjjbaaW.PrintLast Go.Proofs.YtamhfnedknjjbaaW.PrintMore Go.Proofs.Ytamhfnedknjjbaa.PB
set_option linter.unusedVariables false
set_option linter.unusedSimpArgs false
namespace Q
theorem draw_Leans (l : List Int) (hl : l.length ≤ 2097152) : ∃ (r : List Cr) (a b : Int), Ev (fun k => spec_DrawLeansOn.f k l) (r, a, b) ∧ r.length ≤ 10 := by
 obtain ⟨r, a, b, w, e, h⟩ := draw_Member l hl
 refine ⟨r, a, b, ?_, h⟩
 have e3 : Ev (fun k => spec_DrawMembersOf.f k l) (r, a, b) := by
  unfold spec_DrawMembersOf.f
  refine Ev.bind e ?_
  exact Ev.now _
 unfold spec_DrawLeansOn.f
 refine Ev.bind e3 ?_
 exact Ev.now _
theorem draw_Round (l : List Int) (hl : l.length ≤ 2097152) : ∃ r : List Cr, Ev (fun k => spec_DrawRoundRoles.f k l) r ∧ r.length ≤ 10 := by
 obtain ⟨h, e⟩ := new_ l hl
 obtain ⟨r, x1, y1, e1, h1, c1⟩ := words_ (b := l) (x := 0) h ⟨by omega, by omega, hl⟩
 refine ⟨r, ?_, h1⟩
 have e3 : Ev (fun k => spec_DrawFactsOf.f k l) r := by
  unfold spec_DrawFactsOf.f
  refine Ev.bind e ?_
  refine Ev.bind e1 ?_
  exact Ev.now _
 unfold spec_DrawRoundRoles.f
 refine Ev.bind e3 ?_
 exact Ev.now _
theorem draw_Wo (l : List Int) (hl : l.length ≤ 2097152) : ∃ (r : List Cr) (i : Int), Ev (fun k => spec_DrawWithout.f k l) (r, i) ∧ r.length ≤ 10 := by
 obtain ⟨h, e⟩ := new_ l hl
 obtain ⟨v, x1, y1, e1, c1, _⟩ := below_ (b := l) (i := 0) h ⟨by omega, by omega, hl⟩ 10 (by omega)
 obtain ⟨r, x2, y2, e2, h2, c2⟩ := words_ y1 c1
 refine ⟨r, wrap64 (v - 1), ?_, h2⟩
 unfold spec_DrawWithout.f
 refine Ev.bind e ?_
 simp only [e1, Option.bind_some]
 refine Ev.bind e2 ?_
 exact Ev.now _
theorem draw_Crit (l : List Int) (hl : l.length ≤ 2097152) : ∃ (r : List Cr) (a b w : Int), Ev (fun k => spec_DrawCritical.f k l) (r, a, b, w) ∧ r.length ≤ 10 := by
 obtain ⟨r, a, b, w, e, h⟩ := draw_Member l hl
 refine ⟨r, a, b, w, ?_, h⟩
 unfold spec_DrawCritical.f
 refine Ev.bind e ?_
 exact Ev.now _
theorem same_Roles (l : List Rl) (h : l.length ≤ 1048576) : Ev (fun k => laws_sameRoles.f k l l) true := by
 unfold laws_sameRoles.f
 simp only [↓reduceIte]
 refine Ev.up0 l.length (fun i k => laws_sameRoles.l0 k l l i) (fun _ => true) ?_ ?_ 0 (Nat.zero_le _)
 ·intro i hi hn
  refine Ev.succ ?_
  simp only [laws_sameRoles.l0, nat_lt, nat_0, hi, ↓reduceIte, up_ (show i < 4611686018427387904 by omega), BEq.rfl, Bool.not_true, Bool.or_self, Bool.false_eq_true]
  exact hn
 ·refine Ev.succ ?_
  simp only [laws_sameRoles.l0, nat_lt, Nat.lt_irrefl, ↓reduceIte]
  exact Ev.now _
theorem same_Creds (l : List Cr) (h : l.length ≤ 1048576) : Ev (fun k => laws_sameCreds.f k l l) true := by
 unfold laws_sameCreds.f
 simp only [↓reduceIte]
 refine Ev.up0 l.length (fun i k => laws_sameCreds.l0 k l l i) (fun _ => true) ?_ ?_ 0 (Nat.zero_le _)
 ·intro i hi hn
  refine Ev.succ ?_
  simp only [laws_sameCreds.l0, nat_lt, nat_0, hi, ↓reduceIte, up_ (show i < 4611686018427387904 by omega), BEq.rfl, Bool.not_true, Bool.or_self, Bool.false_eq_true]
  exact hn
 ·refine Ev.succ ?_
  simp only [laws_sameCreds.l0, nat_lt, Nat.lt_irrefl, ↓reduceIte]
  exact Ev.now _
end Q
end Go.Proofs.Ytamhfnedknjjbaa
