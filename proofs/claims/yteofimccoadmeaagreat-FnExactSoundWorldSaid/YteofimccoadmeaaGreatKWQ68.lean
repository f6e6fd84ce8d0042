/-
Sound: the reference and the program answer the same of a life.
-/
import Derived.Test.YteofimccoadmeaaGreatKWQ67
namespace Go.Proofs.YteofimccoadmeaaGreat
open Go.RowKit Go.Proofs.YteofimccoadmeaaGreatW.PrintWords Go.Proofs.YteofimccoadmeaaGreatW.PrintLast Go.Proofs.YteofimccoadmeaaGreatW.PrintMore Go.Proofs.YteofimccoadmeaaGreat.PA
set_option linter.unusedVariables false
set_option linter.unusedSimpArgs false
namespace Q
theorem saidS (l : List Crd) (hl : l.length ≤ 1048576) (x : Crd) : Ev (fun k => spec_l14Said.f k l x.f0 x.f1.f0 x.f1.f1 x.f2 x.f3.f0 x.f3.f1 x.f4.f0 x.f4.f1 x.f5 x.f6) (saidB l x) := by
 unfold spec_l14Said.f
 refine Ev.up0 l.length (fun i k => spec_l14Said.l0 k l i x.f0 x.f1.f0 x.f1.f1 x.f2 x.f3.f0 x.f3.f1 x.f4.f0 x.f4.f1 x.f5 x.f6) (fun i => (l.drop i).any fun y => isC x y) ?_ ?_ 0 (Nat.zero_le _)
 ·intro i hi ih
  refine Ev.succ ?_
  simp only [spec_l14Said.l0, nat_lt, nat_0, hi, ↓reduceIte, rdCrd l i hi, up_ (show i < 4611686018427387904 by omega)]
  rw [List.drop_eq_getElem_cons hi, List.any_cons, isC_comm x l[i]]
  show Ev (fun k => if isC l[i] x = true then some true else _) _
  cases hq : isC l[i] x
  ·simp only [Bool.false_eq_true, ↓reduceIte, Bool.false_or]; exact ih
  ·simp only [↓reduceIte, Bool.true_or]; exact Ev.now _
 ·refine Ev.succ ?_
  simp only [spec_l14Said.l0, nat_lt, Nat.lt_irrefl, ↓reduceIte, List.drop_length]
  exact Ev.now _
def answerB (said : List Crd) (a : Answ) (f : Fct) : Bool := ansB a.f1 a.f0 f.f0.f0 f.f0.f1 f.f1 && (crOf a.f1).all (saidB said)
def soundB (said : List Crd) (ans : List Answ) (fs : List Fct) : Bool := if ans.length = fs.length then allFrom (fun i => answerB said (rd_T73 ans i) (rd_T79 fs i)) ans.length 0 else false
theorem spec_saidAll (j0 : Int) (cr : List Crd) (hc : cr.length ≤ 1048576) (w0 : List Per) (w1 : Int) (w2 : List Int) (said w4 : List Crd) (ans : List Answ) (fs : List Fct) (w7 : List Int) (hs : said.length ≤ 1048576) (R : Bool)
  (hN : Ev (fun k => spec_Sound.l0 k (wrap64 (j0 + 1)) w0 w1 w2 said w4 ans fs w7) R) : Ev (fun k => spec_Sound.l1 k j0 cr 0 w0 w1 w2 said w4 ans fs w7) (cr.all (saidB said) && R) := by
 refine Ev.up0 cr.length (fun i k => spec_Sound.l1 k j0 cr i w0 w1 w2 said w4 ans fs w7) (fun i => (cr.drop i).all (saidB said) && R) ?_ ?_ 0 (Nat.zero_le _)
 ·intro i hi ih
  refine Ev.succ ?_
  simp only [spec_Sound.l1, nat_lt, nat_0, hi, ↓reduceIte, rdCrd cr i hi, up_ (show i < 4611686018427387904 by omega)]
  refine Ev.bind (saidS said hs cr[i]) ?_
  rw [List.drop_eq_getElem_cons hi, List.all_cons]
  cases saidB said cr[i]
  ·simp only [Bool.false_eq_true, ↓reduceIte, Bool.false_and]; exact Ev.now _
  ·simp only [↓reduceIte, Bool.true_and]; exact ih
 ·refine Ev.succ ?_
  simp only [spec_Sound.l1, nat_lt, Nat.lt_irrefl, ↓reduceIte, List.drop_length, List.all_nil, Bool.true_and]
  exact hN
theorem spec_Sound_ (w0 : List Per) (w1 : Int) (w2 : List Int) (said w4 : List Crd) (ans : List Answ) (fs : List Fct) (w7 : List Int) (hs : said.length ≤ 1048576) (ha : OkAnss ans) :
  Ev (fun k => spec_Sound.f k w0 w1 w2 said w4 ans fs w7) (soundB said ans fs) := by
 unfold spec_Sound.f soundB
 have hl := ha.1
 by_cases h : ans.length = fs.length
 ·simp only [h, ↓reduceIte]
  refine Ev.up0 fs.length (fun i k => spec_Sound.l0 k i w0 w1 w2 said w4 ans fs w7) (fun i => allFrom (fun i => answerB said (rd_T73 ans i) (rd_T79 fs i)) fs.length i) ?_ ?_ 0 (Nat.zero_le _)
  ·intro i hi ih
   have hi' : i < ans.length := by omega
   refine Ev.succ ?_
   simp only [spec_Sound.l0, nat_lt, nat_0, hi, hi', ↓reduceIte, rdAnsw ans i hi', rdFct fs i hi]
   have hq := ha.2 _ (List.getElem_mem hi')
   refine Ev.bind (spec_CredsIn _ hq.1) ?_
   have hc := crOf_len ans[i].f1
   obtain ⟨m, m1, m2⟩ := spec_Least (crOf ans[i].f1) (by have := hq.1; omega)
   refine Ev.bind m1 ?_
   refine Ev.bind (spec_Answer _ _ _ _ _ _ _ _ m hq.1 hq.2 m2) ?_
   rw [allFrom_lt hi, rdAnsw ans i hi', rdFct fs i hi]
   unfold answerB
   cases ansB ans[i].f1 ans[i].f0 fs[i].f0.f0 fs[i].f0.f1 fs[i].f1
   ·simp only [Bool.false_eq_true, ↓reduceIte, Bool.false_and]; exact Ev.now _
   ·simp only [↓reduceIte, Bool.true_and]
    refine spec_saidAll i _ (by have := hq.1; omega) w0 w1 w2 said w4 ans fs w7 hs _ ?_
    rw [up_ (show i < 4611686018427387904 by omega)]
    exact ih
  ·refine Ev.succ ?_
   simp only [spec_Sound.l0, nat_lt, h, Nat.lt_irrefl, ↓reduceIte]
   rw [allFrom_ge (Nat.lt_irrefl _)]
   exact Ev.now _
 ·have h2 : ¬ ((ans.length : Int) = (fs.length : Int)) := by omega
  simp only [h, h2, ↓reduceIte]
  exact Ev.now _
theorem impl_notSaid (said cr : List Crd) (hs : said.length ≤ 1048576) (hc : cr.length ≤ 1048576) :
  Ev (fun k => impl_Cred_49.f k cr (clo50 said)) (!cr.all (saidB said)) := by
 have key : ∀ d i, cr.length - i = d → i ≤ cr.length → ∃ j : Int, Ev (fun k => impl_Cred_75.l0 k cr (clo50 said) cr.length i) j ∧ decide (j ≥ 0) = !(cr.drop i).all (saidB said) := by
  intro d
  induction d with
  | zero =>
   intro i h1 h2
   obtain rfl : i = cr.length := by omega
   refine ⟨-1, Ev.succ ?_, by simp⟩
   simp only [impl_Cred_75.l0, nat_lt, Nat.lt_irrefl, ↓reduceIte]
   exact Ev.now _
  | succ d ih =>
   intro i h1 h2
   have hi : i < cr.length := by omega
   have hf : clo50 said cr[i] = some (!saidB said cr[i]) := by unfold clo50 saidB; rw [if_pos hs]
   cases hq : saidB said cr[i] with
   | false =>
    refine ⟨i, Ev.succ ?_, ?_⟩
    ·simp only [impl_Cred_75.l0, nat_lt, nat_0, hi, ↓reduceIte, rdCrd cr i hi, eta_c, hf, hq, Option.bind_some, Bool.not_false]
     exact Ev.now _
    ·rw [List.drop_eq_getElem_cons hi, List.all_cons, hq]; simp
   | true =>
    obtain ⟨j, j1, j2⟩ := ih (i + 1) (by omega) (by omega)
    refine ⟨j, Ev.succ ?_, ?_⟩
    ·simp only [impl_Cred_75.l0, nat_lt, nat_0, hi, ↓reduceIte, rdCrd cr i hi, eta_c, hf, hq, Option.bind_some, Bool.not_true, Bool.false_eq_true, up_ (show i < 4611686018427387904 by omega)]
     exact j1
    ·rw [j2, List.drop_eq_getElem_cons hi, List.all_cons, hq, Bool.true_and]
 obtain ⟨j, j1, j2⟩ := key cr.length 0 rfl (Nat.zero_le _)
 unfold impl_Cred_49.f
 refine Ev.bind (show Ev (fun k => impl_Cred_75.f k cr (clo50 said)) j from j1) ?_
 rw [List.drop_zero] at j2
 rw [← j2]
 exact Ev.now _
theorem impl_Sound_ (w0 : List Per) (w1 : Int) (w2 : List Int) (said w4 : List Crd) (ans : List Answ) (fs : List Fct) (w7 : List Int) (hs : said.length ≤ 1048576) (ha : OkAnss ans) :
  Ev (fun k => impl_Sound.f k w0 w1 w2 said w4 ans fs w7) (soundB said ans fs) := by
 unfold impl_Sound.f soundB
 have hl := ha.1
 by_cases h : ans.length = fs.length
 ·simp only [h, ↓reduceIte]
  refine Ev.up0 fs.length (fun i k => impl_Sound.l0 k ans fs.length i w0 w1 w2 said w4 ans fs w7) (fun i => allFrom (fun i => answerB said (rd_T73 ans i) (rd_T79 fs i)) fs.length i) ?_ ?_ 0 (Nat.zero_le _)
  ·intro i hi ih
   have hi' : i < ans.length := by omega
   refine Ev.succ ?_
   simp only [impl_Sound.l0, nat_lt, nat_0, hi, hi', ↓reduceIte, rdAnsw ans i hi', rdFct fs i hi]
   have hq := ha.2 _ (List.getElem_mem hi')
   refine Ev.bind (impl_CredsIn _ hq.1) ?_
   have hc := crOf_len ans[i].f1
   obtain ⟨m, m1, m2⟩ := impl_Least (crOf ans[i].f1) (by have := hq.1; omega)
   refine Ev.bind m1 ?_
   refine Ev.bind (impl_Answer _ _ _ _ _ _ _ _ m hq.1 hq.2 m2) ?_
   rw [allFrom_lt hi, rdAnsw ans i hi', rdFct fs i hi]
   unfold answerB
   cases ansB ans[i].f1 ans[i].f0 fs[i].f0.f0 fs[i].f0.f1 fs[i].f1
   ·simp only [Bool.false_eq_true, ↓reduceIte, Bool.false_and]; exact Ev.now _
   ·simp only [↓reduceIte, Bool.true_and]
    refine Ev.bind (impl_notSaid said _ hs (by have := hq.1; omega)) ?_
    rw [up_ (show i < 4611686018427387904 by omega)]
    cases (crOf ans[i].f1).all (saidB said)
    ·simp only [Bool.not_false, ↓reduceIte, Bool.false_and]; exact Ev.now _
    ·simp only [Bool.not_true, Bool.false_eq_true, ↓reduceIte, Bool.true_and]; exact ih
  ·refine Ev.succ ?_
   simp only [impl_Sound.l0, nat_lt, h, Nat.lt_irrefl, ↓reduceIte]
   rw [allFrom_ge (Nat.lt_irrefl _)]
   exact Ev.now _
 ·have h2 : ¬ ((fs.length : Int) = (ans.length : Int)) := by omega
  simp only [h, h2, ↓reduceIte]
  exact Ev.now _
abbrev Wld := List Per × Int × List Int × List Crd × List Crd × List Answ × List Fct × List Int
def toW (x : LWorld) : Wld := (x.f0.f0.map toP, x.f1, x.f2, x.f3.map toC, x.f4.map toC, x.f5.map toA, x.f6.map toF, x.f7)
structure OkWorld (x : LWorld) : Prop where
 ring : OkPeers x.f0.f0
 f2 : x.f2.length ≤ 1048576
 f3 : x.f3.length ≤ 1048576
 f4 : x.f4.length ≤ 1048576
 f5 : OkAnsws x.f5
 f6 : x.f6.length ≤ 1048576
 f7 : x.f7.length ≤ 1048576
theorem okWorld {x : LWorld} (h : mWorld x ≤ 1048576) : OkWorld x := by
 unfold mWorld at h
 exact ⟨okPeers (by omega), by omega, by omega, by omega, okAnsws (by omega), by omega, by omega⟩
theorem cWorld (x : LWorld) (h : OkWorld x) : Ev (fun k => laws_toWorld.f k x.f0.f0 x.f1 x.f2 x.f3 x.f4 x.f5 x.f6 x.f7) (toW x) :=
 Ev.bind (cRing _ h.ring) (Ev.bind (cInts _ h.f2) (Ev.bind (toCreds _ h.f3) (Ev.bind (toCreds _ h.f4) (Ev.bind (cAnsws _ h.f5) (Ev.bind (cFacts _ h.f6) (Ev.bind (cInts _ h.f7) (Ev.now _)))))))
theorem qWorld (x : LWorld) (h : OkWorld x) : Ev (fun k => laws_eqWorld.f k (toW x).1 (toW x).2.1 (toW x).2.2.1 (toW x).2.2.2.1 (toW x).2.2.2.2.1 (toW x).2.2.2.2.2.1 (toW x).2.2.2.2.2.2.1 (toW x).2.2.2.2.2.2.2 (toW x).1 (toW x).2.1 (toW x).2.2.1 (toW x).2.2.2.1 (toW x).2.2.2.2.1 (toW x).2.2.2.2.2.1 (toW x).2.2.2.2.2.2.1 (toW x).2.2.2.2.2.2.2) true := by
 unfold laws_eqWorld.f
 simp only [↓reduceIte]
 exact Ev.tt (qRing _ (okToP h.ring)) (Ev.tt (qInts _ h.f2) (Ev.tt (eqCreds _ (by show (x.f3.map toC).length ≤ _; rw [List.length_map]; exact h.f3)) (Ev.tt (eqCreds _ (by show (x.f4.map toC).length ≤ _; rw [List.length_map]; exact h.f4)) (Ev.tt (qAnsws _ (okToA h.f5)) (Ev.tt (eqFacts _ (by show (x.f6.map toF).length ≤ _; rw [List.length_map]; exact h.f6)) (Ev.tt (qInts _ h.f7) (Ev.now _)))))))
end Q
end Go.Proofs.YteofimccoadmeaaGreat
