/-
The reference's least sizes: they come to sizes that nothing betters, and so to the program's.
-/
import Derived.Test.YtppdmcimddhbaaaKCQ31
namespace Go.Proofs.Ytppdmcimddhbaaa
open Go.RowKit Go.Proofs.YtppdmcimddhbaaaW.PrintWords Go.Proofs.YtppdmcimddhbaaaW.PrintLast Go.Proofs.YtppdmcimddhbaaaW.PrintMore Go.Proofs.Ytppdmcimddhbaaa.PG
set_option linter.unusedVariables false
set_option linter.unusedSimpArgs false
namespace Q
def encZ (x : Int) : Int := if x = 0 then 1000001 else x
theorem rd_enc {s : List Int} {i : Int} (h0 : 0 ≤ i) (h1 : i < (s.length : Int)) : rd (s.map encZ) i = encZ (rd s i) := by
 obtain ⟨j, rfl⟩ := Int.eq_ofNat_of_zero_le h0
 have hj : j < s.length := by omega
 rw [rdI (by rw [List.length_map]; exact hj), rdI hj, List.getElem_map]
def Best (E : List Int) (W : List Int → Prop) (v : Int) : Prop :=
 (v = 0 ∧ ∀ fr, W fr → szB E fr 1 = 1000001) ∨ (1 ≤ v ∧ v ≤ 1000000 ∧ (∃ fr, W fr ∧ v = szB E fr 1) ∧ ∀ fr, W fr → v ≤ szB E fr 1)
theorem Best.none {E : List Int} {W : List Int → Prop} (h : ∀ fr, ¬ W fr) : Best E W 0 := .inl ⟨rfl, fun fr hf => absurd hf (h fr)⟩
theorem Best.congr {E : List Int} {W W' : List Int → Prop} {v : Int} (h : Best E W v) (hw : ∀ fr, W' fr ↔ W fr) : Best E W' v := by
 rcases h with ⟨h1, h2⟩ | ⟨h1, h2, ⟨fr, h3, h4⟩, h5⟩
 ·exact .inl ⟨h1, fun fr hf => h2 fr ((hw fr).1 hf)⟩
 ·exact .inr ⟨h1, h2, ⟨fr, (hw fr).2 h3, h4⟩, fun fr hf => h5 fr ((hw fr).1 hf)⟩
def one (x : Int) : Int := if x = 0 then 0 else capI (1 + x)
def two (x y : Int) : Int := if x = 0 then 0 else if y = 0 then 0 else capI (1 + x + y)
theorem best_one {s : List Int} {a : Int} (h0 : 0 ≤ a) (h1 : a < (s.length : Int)) (hr : 0 ≤ rd s a ∧ rd s a ≤ 1000000) : Best (s.map encZ) (fun fr => fr = [a]) (one (rd s a)) := by
 have e := rd_enc h0 h1
 unfold one
 by_cases hz : rd s a = 0
 ·rw [if_pos hz]
  refine .inl ⟨rfl, ?_⟩
  rintro fr rfl
  exact szB_big _ _ ⟨a, by simp, by rw [e, hz]; decide⟩
 ·rw [if_neg hz]
  have e2 : rd (s.map encZ) a = rd s a := by rw [e]; unfold encZ; rw [if_neg hz]
  have e3 : szB (s.map encZ) [a] 1 = capI (1 + rd s a) := by
   rw [szB_ok _ _ (fun b hb => by rw [List.mem_singleton.1 hb, e2]; exact hr.2)]
   simp [e2]
  refine .inr ⟨?_, ?_, ⟨[a], rfl, e3.symm⟩, ?_⟩
  ·unfold capI; split <;> omega
  ·unfold capI; split <;> omega
  ·rintro fr rfl
   rw [e3]
   exact Int.le_refl _
theorem best_two {s : List Int} {a b : Int} (h0 : 0 ≤ a) (h1 : a < (s.length : Int)) (hr : 0 ≤ rd s a ∧ rd s a ≤ 1000000) (g0 : 0 ≤ b) (g1 : b < (s.length : Int)) (gr : 0 ≤ rd s b ∧ rd s b ≤ 1000000) : Best (s.map encZ) (fun fr => fr = [a, b]) (two (rd s a) (rd s b)) := by
 have e := rd_enc h0 h1
 have g := rd_enc g0 g1
 unfold two
 by_cases hz : rd s a = 0
 ·rw [if_pos hz]
  refine .inl ⟨rfl, ?_⟩
  rintro fr rfl
  exact szB_big _ _ ⟨a, by simp, by rw [e, hz]; decide⟩
 ·rw [if_neg hz]
  by_cases hy : rd s b = 0
  ·rw [if_pos hy]
   refine .inl ⟨rfl, ?_⟩
   rintro fr rfl
   exact szB_big _ _ ⟨b, by simp, by rw [g, hy]; decide⟩
  ·rw [if_neg hy]
   have e2 : rd (s.map encZ) a = rd s a := by rw [e]; unfold encZ; rw [if_neg hz]
   have g2 : rd (s.map encZ) b = rd s b := by rw [g]; unfold encZ; rw [if_neg hy]
   have e3 : szB (s.map encZ) [a, b] 1 = capI (1 + rd s a + rd s b) := by
    rw [szB_ok _ _ (fun x hx => by rcases List.mem_cons.1 hx with rfl | hx; rw [e2]; exact hr.2; rw [List.mem_singleton.1 hx, g2]; exact gr.2)]
    simp [e2, g2, Int.add_assoc]
   refine .inr ⟨?_, ?_, ⟨[a, b], rfl, e3.symm⟩, ?_⟩
   ·unfold capI; split <;> omega
   ·unfold capI; split <;> omega
   ·rintro fr rfl
    rw [e3]
    exact Int.le_refl _
def bet (v v' : Int) : Int := if v = 0 then v' else if v' > 0 then (if v' < v then v' else v) else v
theorem Best.or {E : List Int} {W W' : List Int → Prop} {v v' : Int} (h : Best E W v) (h' : Best E W' v') : Best E (fun fr => W fr ∨ W' fr) (bet v v') := by
 unfold bet
 rcases h with ⟨rfl, h2⟩ | ⟨h1, h2, ⟨fr, h3, h4⟩, h5⟩
 ·rw [if_pos rfl]
  rcases h' with ⟨rfl, g2⟩ | ⟨g1, g2, ⟨fr', g3, g4⟩, g5⟩
  ·exact .inl ⟨rfl, fun fr hf => hf.elim (h2 fr) (g2 fr)⟩
  ·exact .inr ⟨g1, g2, ⟨fr', .inr g3, g4⟩, fun fr hf => hf.elim (fun hf => by rw [h2 fr hf]; omega) (g5 fr)⟩
 ·rw [if_neg (by omega)]
  rcases h' with ⟨rfl, g2⟩ | ⟨g1, g2, ⟨fr', g3, g4⟩, g5⟩
  ·rw [if_neg (by omega)]
   exact .inr ⟨h1, h2, ⟨fr, .inl h3, h4⟩, fun fr hf => hf.elim (h5 fr) (fun hf => by rw [g2 fr hf]; omega)⟩
  ·rw [if_pos (by omega)]
   split
   ·exact .inr ⟨g1, g2, ⟨fr', .inr g3, g4⟩, fun fr hf => hf.elim (fun hf => by have := h5 fr hf; omega) (g5 fr)⟩
   ·exact .inr ⟨h1, h2, ⟨fr, .inl h3, h4⟩, fun fr hf => hf.elim (h5 fr) (fun hf => by have := g5 fr hf; omega)⟩
theorem spec_at (l : List Fc) (a b c : Int) (h : l.length ≤ 1048576) : Ev (fun k => spec_l19At.f k l a b c) (idxF (isFc a b c) l 0) := by
 unfold spec_l19At.f
 refine Ev.up0 l.length (fun i k => spec_l19At.l0 k l i a b c) (fun i => idxF (isFc a b c) (l.drop i) i) ?_ ?_ 0 (Nat.zero_le _)
 ·intro i hi hn
  refine Ev.succ ?_
  simp only [spec_l19At.l0, nat_lt, nat_0, hi, ↓reduceIte, rd_T29, getD_ _ hi, getDn_ _ hi, up_ (show i < 4611686018427387904 by omega)]
  rw [List.drop_eq_getElem_cons hi]
  unfold idxF
  unfold isFc at hn ⊢
  cases hb : ((l[i].f0.f0 == a && l[i].f0.f1 == b) && l[i].f1 == c)
  ·simp only [Bool.false_eq_true, ↓reduceIte]
   exact hn
  ·simp only [↓reduceIte]
   exact Ev.now _
 ·refine Ev.succ ?_
  simp only [spec_l19At.l0, nat_lt, Nat.lt_irrefl, ↓reduceIte, List.drop_length]
  exact Ev.now _
theorem spec_cap (x : Int) : spec_l19Cap.f x = some (capI x) := by unfold spec_l19Cap.f capI; split <;> rfl
def GoodZ (list : List Cr) (F : List Fc) (s : List Int) : Prop := s.length = F.length ∧ ∀ i : Nat, i < F.length → rd s i = 0 ∨ Ach list F i (rd s i)
theorem goodZ_range {list : List Cr} {F : List Fc} {s : List Int} (h : GoodZ list F s) {a : Int} (h0 : 0 ≤ a) (h1 : a < (F.length : Int)) : 0 ≤ rd s a ∧ rd s a ≤ 1000000 := by
 obtain ⟨n, rfl⟩ := Int.eq_ofNat_of_zero_le h0
 rcases h.2 n (by omega) with h2 | h2
 ·omega
 ·have := ach_pos h2; omega
theorem goodZ_good {list : List Cr} {F : List Fc} {s : List Int} (h : GoodZ list F s) : GoodS list F (s.map encZ) := by
 refine ⟨by rw [List.length_map]; exact h.1, fun i hi => ?_⟩
 rw [rd_enc (by omega) (by have := h.1; omega)]
 unfold encZ
 rcases h.2 i hi with h2 | h2
 ·rw [if_pos h2]; exact .inl rfl
 ·have := ach_pos h2
  rw [if_neg (by omega)]
  exact .inr h2
theorem spec_two {list : List Cr} {F : List Fc} {s : List Int} (hg : GoodZ list F s) (a b : Int) (ha : a = -1 ∨ (0 ≤ a ∧ a < (F.length : Int))) (hb : b = -1 ∨ (0 ≤ b ∧ b < (F.length : Int))) :
  ∃ v fr, spec_l19Two.f s a b = some (v, fr) ∧ Best (s.map encZ) (fun fr => (0 ≤ a ∧ 0 ≤ b) ∧ fr = [a, b]) v := by
 unfold spec_l19Two.f
 by_cases h1 : a < 0
 ·rw [if_pos h1]
  exact ⟨_, _, rfl, Best.none (fun fr h => by omega)⟩
 ·rw [if_neg h1]
  by_cases h2 : b < 0
  ·rw [if_pos h2]
   exact ⟨_, _, rfl, Best.none (fun fr h => by omega)⟩
  ·rw [if_neg h2]
   have a1 : a < (s.length : Int) := by have := hg.1; omega
   have b1 : b < (s.length : Int) := by have := hg.1; omega
   have ra := goodZ_range hg (a := a) (by omega) (by omega)
   have rb := goodZ_range hg (a := b) (by omega) (by omega)
   have hbest := best_two (s := s) (by omega) a1 ra (by omega) b1 rb
   have hc : ∀ fr, ((0 ≤ a ∧ 0 ≤ b) ∧ fr = [a, b]) ↔ fr = [a, b] := fun fr => ⟨fun h => h.2, fun h => ⟨by omega, h⟩⟩
   have hbest := hbest.congr hc
   generalize (fun fr => (0 ≤ a ∧ 0 ≤ b) ∧ fr = [a, b]) = W at hbest ⊢
   simp only [show 0 ≤ a by omega, a1, show 0 ≤ b by omega, b1, ↓reduceIte]
   unfold two at hbest
   by_cases z1 : rd s a = 0
   ·rw [if_pos z1] at hbest ⊢
    exact ⟨_, _, rfl, hbest⟩
   ·rw [if_neg z1] at hbest ⊢
    by_cases z2 : rd s b = 0
    ·rw [if_pos z2] at hbest ⊢
     exact ⟨_, _, rfl, hbest⟩
    ·rw [if_neg z2] at hbest ⊢
     rw [w64 (n := 1 + rd s a) (by omega) (by omega), w64 (n := 1 + rd s a + rd s b) (by omega) (by omega), spec_cap]
     exact ⟨_, _, rfl, hbest⟩
theorem spec_bet (v v' : Int) (l l' : List Int) : ∃ fr, spec_l19Better.f v l v' l' = some (bet v v', fr) := by
 unfold spec_l19Better.f bet
 by_cases h1 : v = 0
 ·rw [if_pos h1, if_pos h1]; exact ⟨_, rfl⟩
 ·rw [if_neg h1, if_neg h1]
  by_cases h2 : v' > 0
  ·rw [if_pos h2, if_pos h2]
   by_cases h3 : v' < v
   ·rw [if_pos h3, if_pos h3]; exact ⟨_, rfl⟩
   ·rw [if_neg h3, if_neg h3]; exact ⟨_, rfl⟩
  ·rw [if_neg h2, if_neg h2]; exact ⟨_, rfl⟩
theorem atF_two (F : List Fc) (r : Rl) (w : Int) : atF F r w = -1 ∨ (0 ≤ atF F r w ∧ atF F r w < (F.length : Int)) := (atF_pos F r w).elim (fun h => .inl h.1) (fun h => .inr h.1)
theorem atF_iff {F : List Fc} (hn : F.Nodup) {r : Rl} {w a : Int} : (0 ≤ atF F r w ∧ a = atF F r w) ↔ ((0 ≤ a ∧ a < (F.length : Int)) ∧ rd_T29 F a = ⟨r, w⟩) := by
 constructor
 ·rintro ⟨h0, rfl⟩
  rcases atF_pos F r w with ⟨h1, _⟩ | h1
  ·omega
  ·exact h1
 ·rintro ⟨h1, h2⟩
  have := atF_at hn h1 h2
  rw [this]
  exact ⟨h1.1, rfl⟩
theorem roleCn_ (x y : Rl) : (!(x.f0 == y.f0) || !(x.f1 == y.f1)) = !decide (x = y) := by
 rw [← Bool.not_and]
 congr 1
 obtain ⟨p, q⟩ := x
 obtain ⟨p', q'⟩ := y
 rw [Bool.eq_iff_iff]
 simp
theorem spec_by {list : List Cr} {F : List Fc} (hR : Right F) (hn : F.Nodup) (hF : F.length ≤ 144) {s : List Int} (hg : GoodZ list F s) (c : Cr) (f : Fc) :
  ∃ v fr, Ev (fun k => spec_l19By.f k F s c.f0 c.f1.f0 c.f1.f1 c.f2 c.f3.f0 c.f3.f1 c.f4.f0 c.f4.f1 c.f5 c.f6 f.f0.f0 f.f0.f1 f.f1) (v, fr) ∧ Best (s.map encZ) (fun fr => cOk c = true ∧ Way F c f fr) v := by
 obtain ⟨W, hW⟩ : ∃ W : List Int → Prop, W = fun fr => cOk c = true ∧ Way F c f fr := ⟨_, rfl⟩
 rw [← hW]
 have zero : ∀ b : Bool, b = true → (∀ fr, ¬ W fr) → ∃ v fr, Ev (fun k => spec_l19By.j0 k F s b c.f0 c.f1.f0 c.f1.f1 c.f2 c.f3.f0 c.f3.f1 c.f4.f0 c.f4.f1 c.f5 c.f6 f.f0.f0 f.f0.f1 f.f1) (v, fr) ∧ Best (s.map encZ) W v := by
  rintro b rfl hw
  refine ⟨0, [], Ev.succ ?_, Best.none hw⟩
  simp only [spec_l19By.j0, ↓reduceIte]
  exact Ev.now _
 have start : ∀ {g : Bool → Nat → Option (Int × List Int)} , (∃ v fr, Ev (fun k => if cOk c = true then g (!(c.f1.f0 == f.f0.f0) || !(c.f1.f1 == f.f0.f1)) k else g true k) (v, fr) ∧ Best (s.map encZ) W v) → ∃ v fr, Ev (fun k => (spec_CredOk.f k c.f0 c.f1.f0 c.f1.f1 c.f2 c.f3.f0 c.f3.f1 c.f4.f0 c.f4.f1 c.f5 c.f6).bind fun t => if t = true then g (!(c.f1.f0 == f.f0.f0) || !(c.f1.f1 == f.f0.f1)) k else g true k) (v, fr) ∧ Best (s.map encZ) W v := by
  rintro g ⟨v, fr, h1, h2⟩
  exact ⟨v, fr, Ev.bind (spec_CredOk _ _ _ _ _ _ _ _ _ _) h1, h2⟩
 unfold spec_l19By.f
 refine start (g := fun b k => spec_l19By.j0 k F s b c.f0 c.f1.f0 c.f1.f1 c.f2 c.f3.f0 c.f3.f1 c.f4.f0 c.f4.f1 c.f5 c.f6 f.f0.f0 f.f0.f1 f.f1) ?_
 cases ok : cOk c
 ·simp only [Bool.false_eq_true, ↓reduceIte]
  exact zero true rfl (fun fr h => by rw [hW] at h; rw [ok] at h; exact absurd h.1 (by simp))
 ·simp only [↓reduceIte]
  by_cases hof : c.f1 = f.f0
  ·have e : (!(c.f1.f0 == f.f0.f0) || !(c.f1.f1 == f.f0.f1)) = false := by rw [hof]; simp
   rw [e]
   have hw : ∀ fr, W fr ↔ Way F c f fr := fun fr => by rw [hW]; exact ⟨fun h => h.2, fun h => ⟨ok, h⟩⟩
   suffices hs : ∃ v fr, Ev (fun k => spec_l19By.j0 k F s false c.f0 c.f1.f0 c.f1.f1 c.f2 c.f3.f0 c.f3.f1 c.f4.f0 c.f4.f1 c.f5 c.f6 f.f0.f0 f.f0.f1 f.f1) (v, fr) ∧ Best (s.map encZ) (fun fr => Way F c f fr) v by
    obtain ⟨v, fr, h1, h2⟩ := hs
    exact ⟨v, fr, h1, h2.congr hw⟩
   rcases cOk_kind ok with hk | hk | hk | hk
   ·by_cases h2 : c.f2 = f.f1
    ·refine ⟨1, [], Ev.succ ?_, .inr ⟨by omega, by omega, ⟨[], (way1 hk).2 ⟨by rw [hof, h2], rfl⟩, rfl⟩, fun fr h => by rw [((way1 hk).1 h).2]; show (1 : Int) ≤ capI 1; decide⟩⟩
     simp only [spec_l19By.j0, hk, h2, Bool.false_eq_true, ↓reduceIte]
     exact Ev.now _
    ·refine ⟨0, [], Ev.succ ?_, Best.none (fun fr h => h2 ?_)⟩
     ·simp only [spec_l19By.j0, hk, h2, Bool.false_eq_true, ↓reduceIte]
      exact Ev.now _
     ·have := ((way1 hk).1 h).1
      rw [this]
   ·have hat := spec_at F c.f3.f0 c.f3.f1 f.f1 (by omega)
    have ha : idxF (isFc c.f3.f0 c.f3.f1 f.f1) F 0 = atF F c.f3 f.f1 := rfl
    rw [ha] at hat
    have hww : ∀ fr, Way F c f fr ↔ (0 ≤ atF F c.f3 f.f1 ∧ fr = [atF F c.f3 f.f1]) := by
     intro fr
     rw [way2 hR hk]
     constructor
     ·rintro ⟨_, a, h1, h2, rfl⟩
      have := (atF_iff hn).2 ⟨h1, h2⟩
      exact ⟨this.1, by rw [this.2]⟩
     ·rintro ⟨h0, rfl⟩
      have := (atF_iff hn (a := atF F c.f3 f.f1)).1 ⟨h0, rfl⟩
      exact ⟨hof.symm, _, this.1, this.2, rfl⟩
    have h2 := atF_two F c.f3 f.f1
    generalize atF F c.f3 f.f1 = a at hat hww h2
    have hj : ∀ {v : Int} {fr : List Int}, Ev (fun k => if a < 0 then some (0, ([] : List Int)) else if 0 ≤ a then if a < (s.length : Int) then if rd s a = 0 then some (0, ([] : List Int)) else (spec_l19Cap.f (wrap64 (1 + rd s a))).bind fun t => some (t, [a]) else none else none) (v, fr) → Ev (fun k => spec_l19By.j0 k F s false c.f0 c.f1.f0 c.f1.f1 c.f2 c.f3.f0 c.f3.f1 c.f4.f0 c.f4.f1 c.f5 c.f6 f.f0.f0 f.f0.f1 f.f1) (v, fr) := by
     intro v fr h
     refine Ev.succ ?_
     simp only [spec_l19By.j0, hk, Bool.false_eq_true, ↓reduceIte, show ¬ ((2 : Int) = 1) by omega]
     refine Ev.bind hat ?_
     exact h
    by_cases h0 : a < 0
    ·refine ⟨0, [], hj ?_, Best.none (fun fr h => by have := ((hww fr).1 h).1; omega)⟩
     simp only [h0, ↓reduceIte]
     exact Ev.now _
    ·have a1 : a < (s.length : Int) := by have := hg.1; omega
     have ra := goodZ_range hg (a := a) (by omega) (by omega)
     have hb := (best_one (s := s) (by omega) a1 ra).congr (W' := fun fr => Way F c f fr) (fun fr => by rw [hww]; exact ⟨fun h => h.2, fun h => ⟨by omega, h⟩⟩)
     unfold one at hb
     by_cases hz : rd s a = 0
     ·rw [if_pos hz] at hb
      refine ⟨0, [], hj ?_, hb⟩
      simp only [h0, show 0 ≤ a by omega, a1, hz, ↓reduceIte]
      exact Ev.now _
     ·rw [if_neg hz] at hb
      refine ⟨_, [a], hj ?_, hb⟩
      simp only [h0, show 0 ≤ a by omega, a1, hz, ↓reduceIte, w64 (n := 1 + rd s a) (by omega) (by omega), spec_cap, Option.bind_some]
      exact Ev.now _
   ·-- links: a round over the facts
    have key : ∀ (m : Nat) (v : Int) (fr0 : List Int), m ≤ F.length → Best (s.map encZ) (fun fr => ∃ a b, a < (m : Int) ∧ ((0 ≤ a ∧ a < (F.length : Int)) ∧ (rd_T29 F a).f0 = c.f3) ∧ ((0 ≤ b ∧ b < (F.length : Int)) ∧ rd_T29 F b = ⟨⟨(rd_T29 F a).f1, c.f4.f1⟩, f.f1⟩) ∧ fr = [a, b]) v →
      ∃ r, Ev (fun k => spec_l19By.l0 k F s m c.f0 c.f1.f0 c.f1.f1 c.f2 c.f3.f0 c.f3.f1 c.f4.f0 c.f4.f1 c.f5 c.f6 f.f0.f0 f.f0.f1 f.f1 v fr0) r ∧ Best (s.map encZ) (fun fr => Way F c f fr) r.1 := by
     intro m v fr0 hm hb
     refine Ev.upE F.length (fun m (t : Int × List Int) k => spec_l19By.l0 k F s m c.f0 c.f1.f0 c.f1.f1 c.f2 c.f3.f0 c.f3.f1 c.f4.f0 c.f4.f1 c.f5 c.f6 f.f0.f0 f.f0.f1 f.f1 t.1 t.2) (fun r => Best (s.map encZ) (fun fr => Way F c f fr) r.1)
      (fun m t => Best (s.map encZ) (fun fr => ∃ a b, a < (m : Int) ∧ ((0 ≤ a ∧ a < (F.length : Int)) ∧ (rd_T29 F a).f0 = c.f3) ∧ ((0 ≤ b ∧ b < (F.length : Int)) ∧ rd_T29 F b = ⟨⟨(rd_T29 F a).f1, c.f4.f1⟩, f.f1⟩) ∧ fr = [a, b]) t.1) ?_ ?_ m (v, fr0) hm hb
     ·rintro i ⟨v, fr0⟩ hi hb ih
      simp only at hb
      have hup := up_ (show i < 4611686018427387904 by omega)
      refine Ev.exsucc ?_
      simp only [spec_l19By.l0, nat_lt, nat_0, hi, ↓reduceIte, hup, rdF hi, roleB]
      by_cases hA : F[i].f0 = c.f3
      ·have hA' : F[i].f0 = ⟨c.f3.f0, c.f3.f1⟩ := hA
       simp only [hA', decide_true, ↓reduceIte]
       refine Ev.exbind (spec_at F _ _ _ (by omega)) ?_
       have hat : idxF (isFc F[i].f1 c.f4.f1 f.f1) F 0 = atF F ⟨F[i].f1, c.f4.f1⟩ f.f1 := rfl
       rw [hat]
       obtain ⟨v2, fr2, e2, b2⟩ := spec_two hg (i : Int) (atF F ⟨F[i].f1, c.f4.f1⟩ f.f1) (.inr ⟨by omega, by omega⟩) (atF_two _ _ _)
       obtain ⟨fr3, e3⟩ := spec_bet v v2 fr0 fr2
       simp only [e2, e3, Option.bind_some]
       refine ih (bet v v2, fr3) ?_
       simp only
       refine (hb.or b2).congr (fun fr => ?_)
       constructor
       ·rintro ⟨a, b, h1, ⟨h2, h3⟩, ⟨h4, h5⟩, rfl⟩
        by_cases e : a = (i : Int)
        ·subst e
         rw [rdF hi] at h5
         have := (atF_iff hn).2 ⟨h4, h5⟩
         exact .inr ⟨⟨by omega, this.1⟩, by rw [this.2]⟩
        ·exact .inl ⟨a, b, by omega, ⟨h2, h3⟩, ⟨h4, h5⟩, rfl⟩
       ·rintro (⟨a, b, h1, h2, h3, rfl⟩ | ⟨⟨_, h1⟩, rfl⟩)
        ·exact ⟨a, b, by omega, h2, h3, rfl⟩
        ·have := (atF_iff hn (a := atF F ⟨F[i].f1, c.f4.f1⟩ f.f1)).1 ⟨h1, rfl⟩
         exact ⟨(i : Int), _, by omega, ⟨⟨by omega, by omega⟩, by rw [rdF hi]; exact hA⟩, ⟨this.1, by rw [rdF hi]; exact this.2⟩, rfl⟩
      ·have hA' : ¬ F[i].f0 = ⟨c.f3.f0, c.f3.f1⟩ := hA
       simp only [hA', decide_false, Bool.false_eq_true, ↓reduceIte]
       refine ih (v, fr0) ?_
       simp only
       refine hb.congr (fun fr => ?_)
       constructor
       ·rintro ⟨a, b, h1, ⟨h2, h3⟩, h4, rfl⟩
        refine ⟨a, b, ?_, ⟨h2, h3⟩, h4, rfl⟩
        have : a ≠ (i : Int) := by
         rintro rfl
         rw [rdF hi] at h3
         exact hA h3
        omega
       ·rintro ⟨a, b, h1, h2, h3, rfl⟩
        exact ⟨a, b, by omega, h2, h3, rfl⟩
     ·rintro ⟨v, fr0⟩ hb
      simp only at hb
      refine Ev.exsucc ?_
      simp only [spec_l19By.l0, nat_lt, Nat.lt_irrefl, ↓reduceIte]
      refine ⟨_, Ev.now _, hb.congr (fun fr => ?_)⟩
      rw [way3 hR hk]
      constructor
      ·rintro ⟨_, a, b, h1, h2, rfl⟩
       exact ⟨a, b, h1.1.2, h1, h2, rfl⟩
      ·rintro ⟨a, b, _, h1, h2, rfl⟩
       exact ⟨hof.symm, a, b, h1, h2, rfl⟩
    obtain ⟨⟨v, fr⟩, h1, h2⟩ := key 0 0 [] (by omega) (Best.none (fun fr ⟨a, b, h1, h2, _⟩ => by have := h2.1.1; omega))
    refine ⟨v, fr, Ev.succ ?_, h2⟩
    simp only [spec_l19By.j0, hk, Bool.false_eq_true, ↓reduceIte, show ¬ ((3 : Int) = 1) by omega, show ¬ ((3 : Int) = 2) by omega, show ¬ ((3 : Int) = 4) by omega]
    rw [hk] at h1
    exact h1
   ·have hat := spec_at F c.f3.f0 c.f3.f1 f.f1 (by omega)
    have hat2 := spec_at F c.f4.f0 c.f4.f1 f.f1 (by omega)
    have ha : idxF (isFc c.f3.f0 c.f3.f1 f.f1) F 0 = atF F c.f3 f.f1 := rfl
    have ha2 : idxF (isFc c.f4.f0 c.f4.f1 f.f1) F 0 = atF F c.f4 f.f1 := rfl
    rw [ha] at hat
    rw [ha2] at hat2
    obtain ⟨v2, fr2, e2, b2⟩ := spec_two hg (atF F c.f3 f.f1) (atF F c.f4 f.f1) (atF_two _ _ _) (atF_two _ _ _)
    refine ⟨v2, fr2, Ev.succ ?_, b2.congr (fun fr => ?_)⟩
    ·simp only [spec_l19By.j0, hk, Bool.false_eq_true, ↓reduceIte, show ¬ ((4 : Int) = 1) by omega, show ¬ ((4 : Int) = 2) by omega]
     refine Ev.bind hat ?_
     refine Ev.bind hat2 ?_
     simp only [e2, Option.bind_some]
     exact Ev.now _
    ·rw [way4 hR hn hk]
     constructor
     ·rintro ⟨_, a, b, ⟨h1, h2⟩, ⟨h3, h4⟩, rfl⟩
      have g1 := (atF_iff hn).2 ⟨h1, h2⟩
      have g2 := (atF_iff hn).2 ⟨h3, h4⟩
      exact ⟨⟨g1.1, g2.1⟩, by rw [g1.2, g2.2]⟩
     ·rintro ⟨⟨h1, h2⟩, rfl⟩
      have g1 := (atF_iff hn (a := atF F c.f3 f.f1)).1 ⟨h1, rfl⟩
      have g2 := (atF_iff hn (a := atF F c.f4 f.f1)).1 ⟨h2, rfl⟩
      exact ⟨hof.symm, _, _, g1, g2, rfl⟩
  ·have e : (!(c.f1.f0 == f.f0.f0) || !(c.f1.f1 == f.f0.f1)) = true := by
    have := roleCn_ c.f1 f.f0
    rw [this, decide_eq_false hof]
    rfl
   refine zero _ e (fun fr h => hof ?_)
   rw [hW] at h
   have h' := h.2
   rcases cOk_kind ok with hk | hk | hk | hk
   ·rw [((way1 hk).1 h').1]
   ·exact ((way2 hR hk).1 h').1.symm
   ·exact ((way3 hR hk).1 h').1.symm
   ·exact ((way4 hR hn hk).1 h').1.symm
end Q
end Go.Proofs.Ytppdmcimddhbaaa
