/-
Policies: what is copied is the same list again; PolicyOk of the reference and of the program are one plain function.
-/
import Derived.Test.YtnoklfpnmopkpaaKPQ0
namespace Go.Proofs.Ytnoklfpnmopkpaa
open Go.RowKit Go.Proofs.YtnoklfpnmopkpaaW.PrintWords Go.Proofs.YtnoklfpnmopkpaaW.PrintLast Go.Proofs.YtnoklfpnmopkpaaW.PrintMore Go.Proofs.Ytnoklfpnmopkpaa.PE
set_option linter.unusedVariables false
set_option linter.unusedSimpArgs false
namespace Q
abbrev Node := S57
abbrev Role := S55
def zN : Node := z57
def nodeOkB (i : Nat) (x : Node) : Bool :=
 if x.f0 = 1 then roleOkB x.f1.f0 x.f1.f1 && (x.f2 == 0 && x.f3 == 0)
 else if x.f0 = 2 ∨ x.f0 = 3 then (x.f1.f0 == 0 && x.f1.f1 == 0) && (inB x.f2 0 ((i : Int) - 1) && inB x.f3 0 ((i : Int) - 1))
 else if x.f0 = 4 then (x.f1.f0 == 0 && x.f1.f1 == 0) && (inB x.f2 0 ((i : Int) - 1) && x.f3 == 0)
 else false
def nodesB (l : List Node) : Nat → Bool := allFrom (fun j => nodeOkB j (l.getD j zN)) l.length
def policyOkB (l : List Node) : Bool := inB l.length 1 40 && nodesB l 0
theorem ev_and {x : Bool} {g : Nat → Option Bool} {y : Bool} (h : Ev g y) : Ev (fun k => if x = true then g k else some false) (x && y) := by
 cases x
 ·exact Ev.now _
 ·simpa using h
theorem ev_and' {p : Prop} [Decidable p] {x : Bool} (hx : x = decide p) {g : Nat → Option Bool} {y : Bool} (h : Ev g y) : Ev (fun k => if p then g k else some false) (x && y) := by
 subst hx
 by_cases h1 : p
 ·simpa [h1] using h
 ·simpa [h1] using Ev.now false
theorem spec_PolicyOk (l : List Node) (h : l.length ≤ 1048576) : Ev (fun k => spec_PolicyOk.f k l) (policyOkB l) := by
 unfold spec_PolicyOk.f
 simp only [spec_in, Option.bind_some]
 refine ev_and ?_
 refine Ev.up0 l.length (fun i k => spec_PolicyOk.l0 k i l) (fun i => nodesB l i) ?_ ?_ 0 (Nat.zero_le _)
 ·intro i hi hn
  refine Ev.succ ?_
  have e0 : nodesB l i = (nodeOkB i l[i] && nodesB l (i + 1)) := by unfold nodesB; rw [allFrom_lt hi]; simp [hi]
  rw [e0]
  have j1 : Ev (fun k => spec_PolicyOk.j1 k i l[i].f0 true l l[i].f0 l[i].f1.f0 l[i].f1.f1 l[i].f2 l[i].f3) (((l[i].f1.f0 == 0 && l[i].f1.f1 == 0) && (inB l[i].f2 0 ((i : Int) - 1) && inB l[i].f3 0 ((i : Int) - 1))) && nodesB l (i + 1)) := by
   refine Ev.succ ?_
   simp only [spec_PolicyOk.j1, ↓reduceIte, spec_l21None.f, spec_in, Option.bind_some, up_ (show i < 4611686018427387904 by omega), down_ (show i < 4611686018427387904 by omega), Bool.and_assoc]
   rw [← Bool.and_assoc]
   exact ev_and (ev_and (ev_and hn))
  have j2 : l[i].f0 ≠ 2 → l[i].f0 ≠ 3 → Ev (fun k => spec_PolicyOk.j1 k i l[i].f0 false l l[i].f0 l[i].f1.f0 l[i].f1.f1 l[i].f2 l[i].f3)
    ((if l[i].f0 = 4 then (l[i].f1.f0 == 0 && l[i].f1.f1 == 0) && (inB l[i].f2 0 ((i : Int) - 1) && l[i].f3 == 0) else false) && nodesB l (i + 1)) := by
   intro h2 h3
   refine Ev.succ ?_
   simp only [spec_PolicyOk.j1, ↓reduceIte, spec_l21None.f, spec_in, Option.bind_some, up_ (show i < 4611686018427387904 by omega), down_ (show i < 4611686018427387904 by omega)]
   by_cases h4 : l[i].f0 = 4
   ·simp only [h4, ↓reduceIte, Bool.and_assoc]
    rw [← Bool.and_assoc]
    exact ev_and (ev_and (ev_and' (beqI _ _) hn))
   ·simp only [h4, ↓reduceIte]
    exact Ev.now _
  simp only [spec_PolicyOk.l0, nat_lt, nat_0, hi, ↓reduceIte, spec_RoleOk, Option.bind_some, rd_T57, getD_ _ hi, getDn_ _ hi, up_ (show i < 4611686018427387904 by omega)]
  unfold nodeOkB
  by_cases h1 : l[i].f0 = 1
  ·simp only [h1, ↓reduceIte, Bool.and_assoc]
   exact ev_and (ev_and' (beqI _ _) (ev_and' (beqI _ _) hn))
  ·by_cases h2 : l[i].f0 = 2
   ·simp only [h2] at j1 ⊢
    simpa using j1
   ·by_cases h3 : l[i].f0 = 3
    ·simp only [h3] at j1 ⊢
     simpa using j1
    ·have := j2 h2 h3
     simpa [h1, h2, h3, show (l[i].f0 == 3) = false by simpa using h3] using this
 ·refine Ev.succ ?_
  simp only [spec_PolicyOk.l0, nat_lt, Nat.lt_irrefl, ↓reduceIte]
  unfold nodesB
  rw [allFrom_ge (Nat.lt_irrefl _)]
  exact Ev.now _
theorem impl_PolicyOk (l : List Node) (h : l.length ≤ 1048576) : Ev (fun k => impl_PolicyOk.f k l) (policyOkB l) := by
 unfold impl_PolicyOk.f
 simp only [impl_in, Option.bind_some]
 refine ev_and ?_
 refine Ev.up0 l.length (fun i k => impl_PolicyOk.l0 k l l.length i) (fun i => nodesB l i) ?_ ?_ 0 (Nat.zero_le _)
 ·intro i hi hn
  refine Ev.succ ?_
  have e0 : nodesB l i = (nodeOkB i l[i] && nodesB l (i + 1)) := by unfold nodesB; rw [allFrom_lt hi]; simp [hi]
  rw [e0]
  have j1 : Ev (fun k => impl_PolicyOk.j1 k i false l l.length i l[i].f0 true l[i].f0 l[i].f1.f0 l[i].f1.f1 l[i].f2 l[i].f3 0 0) (((l[i].f1.f0 == 0 && l[i].f1.f1 == 0) && (inB l[i].f2 0 ((i : Int) - 1) && inB l[i].f3 0 ((i : Int) - 1))) && nodesB l (i + 1)) := by
   refine Ev.succ ?_
   simp only [impl_PolicyOk.j1, ↓reduceIte, impl_in, Option.bind_some, up_ (show i < 4611686018427387904 by omega), down_ (show i < 4611686018427387904 by omega), Bool.and_assoc]
   rw [← Bool.and_assoc]
   exact ev_and (ev_and (ev_and hn))
  have j2 : l[i].f0 ≠ 2 → l[i].f0 ≠ 3 → Ev (fun k => impl_PolicyOk.j1 k i false l l.length i l[i].f0 false l[i].f0 l[i].f1.f0 l[i].f1.f1 l[i].f2 l[i].f3 0 0)
    ((if l[i].f0 = 4 then (l[i].f1.f0 == 0 && l[i].f1.f1 == 0) && (inB l[i].f2 0 ((i : Int) - 1) && l[i].f3 == 0) else false) && nodesB l (i + 1)) := by
   intro h2 h3
   refine Ev.succ ?_
   simp only [impl_PolicyOk.j1, ↓reduceIte, impl_in, Option.bind_some, up_ (show i < 4611686018427387904 by omega), down_ (show i < 4611686018427387904 by omega)]
   by_cases h4 : l[i].f0 = 4
   ·simp only [h4, ↓reduceIte, Bool.and_assoc]
    rw [← Bool.and_assoc]
    exact ev_and (ev_and (ev_and' (beqI _ _) hn))
   ·simp only [h4, ↓reduceIte]
    exact Ev.now _
  simp only [impl_PolicyOk.l0, nat_lt, nat_0, hi, ↓reduceIte, impl_RoleOk, Option.bind_some, rd_T57, getD_ _ hi, getDn_ _ hi, up_ (show i < 4611686018427387904 by omega)]
  unfold nodeOkB
  by_cases h1 : l[i].f0 = 1
  ·simp only [h1, ↓reduceIte, Bool.and_assoc]
   exact ev_and (ev_and' (beqI _ _) (ev_and' (beqI _ _) hn))
  ·by_cases h2 : l[i].f0 = 2
   ·simp only [h2] at j1 ⊢
    simpa using j1
   ·by_cases h3 : l[i].f0 = 3
    ·simp only [h3] at j1 ⊢
     simpa using j1
    ·have := j2 h2 h3
     simpa [h1, h2, h3, show (l[i].f0 == 3) = false by simpa using h3] using this
 ·refine Ev.succ ?_
  simp only [impl_PolicyOk.l0, nat_lt, Nat.lt_irrefl, ↓reduceIte]
  unfold nodesB
  rw [allFrom_ge (Nat.lt_irrefl _)]
  exact Ev.now _
end Q
end Go.Proofs.Ytnoklfpnmopkpaa
