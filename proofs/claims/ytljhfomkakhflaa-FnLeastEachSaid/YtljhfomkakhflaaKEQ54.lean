/-
What is drawn: words whose circles are six.
-/
import Derived.Test.YtljhfomkakhflaaKEPAx25
import Derived.Test.YtljhfomkakhflaaKEQ53
namespace Go.Proofs.Ytljhfomkakhflaa
open Go.RowKit Go.Proofs.YtljhfomkakhflaaW.PrintWords Go.Proofs.YtljhfomkakhflaaW.PrintLast Go.Proofs.YtljhfomkakhflaaW.PrintMore Go.Proofs.Ytljhfomkakhflaa.PA
set_option linter.unusedVariables false
set_option linter.unusedSimpArgs false
namespace Q
def Cu (b : List Int) (i : Int) : Prop := 0 ≤ i ∧ i ≤ (b.length : Int) ∧ b.length ≤ 2097152
theorem and255 (x : Int) : 0 ≤ Go.bits .and .i64 x 255 ∧ Go.bits .and .i64 x 255 ≤ 255 := by
 have h : (BitVec.ofInt 64 x &&& BitVec.ofInt 64 255).toNat ≤ 255 := by
  rw [BitVec.toNat_and]
  exact Nat.le_trans Nat.and_le_right (by decide)
 obtain ⟨n, hn⟩ : ∃ n, (BitVec.ofInt 64 x &&& BitVec.ofInt 64 255).toNat = n := ⟨_, rfl⟩
 rw [hn] at h
 have e : Go.bits .and .i64 x 255 = (n : Int) := by
  show IntKind.i64.wrap (((BitVec.ofInt 64 x &&& BitVec.ofInt 64 255).toNat : Nat) : Int) = _
  rw [hn]
  exact wraps_i64 _ (by omega) (by omega)
 rw [e]
 omega
theorem byte_ {b : List Int} {i : Int} (h : Int) (hc : Cu b i) : ∃ v i' h', spec_l01Byte.f b i h = some (v, i', h') ∧ 0 ≤ v ∧ v ≤ 255 ∧ Cu b i' := by
 obtain ⟨h0, h1, h2⟩ := hc
 unfold spec_l01Byte.f
 by_cases hl : i < (b.length : Int)
 ·rw [if_pos hl, if_pos h0]
  refine ⟨_, _, _, rfl, (and255 _).1, (and255 _).2, ?_⟩
  rw [w64 (by omega) (by omega)]
  exact ⟨by omega, by omega, h2⟩
 ·rw [if_neg hl]
  exact ⟨_, _, _, rfl, (and255 _).1, (and255 _).2, h0, h1, h2⟩
theorem below_ {b : List Int} {i : Int} (h : Int) (hc : Cu b i) (n : Int) (hn : n ≤ 256) : ∃ v i' h', spec_l01Below.f b i h n = some (v, i', h') ∧ Cu b i' ∧ 0 ≤ v ∧ (0 < n → v < n) ∧ (n ≤ 0 → v = 0) := by
 unfold spec_l01Below.f
 by_cases h0 : n ≤ 0
 ·rw [if_pos h0]
  exact ⟨_, _, _, rfl, hc, by omega, fun h => by omega, fun _ => rfl⟩
 ·rw [if_neg h0, if_pos hn]
  obtain ⟨v, i', h', e, v0, v1, c'⟩ := byte_ h hc
  rw [e]
  simp only [Option.bind_some, show ¬ n = 0 by omega, ↓reduceIte]
  exact ⟨_, _, _, rfl, c', Int.tmod_nonneg _ v0, fun _ => Int.tmod_lt_of_pos _ (by omega), fun h => by omega⟩
theorem role_ {b : List Int} {i : Int} (h : Int) (hc : Cu b i) : ∃ x y i' h', spec_l05Role.f b i h = some (x, y, i', h') ∧ Cu b i' ∧ roleOkB x y = true := by
 unfold spec_l05Role.f
 obtain ⟨x, i1, h1, e1, c1, x0, x1, _⟩ := below_ h hc 3 (by omega)
 obtain ⟨y, i2, h2, e2, c2, y0, y1, _⟩ := below_ h1 c1 2 (by omega)
 have := x1 (by omega)
 have := y1 (by omega)
 simp only [e1, e2, Option.bind_some]
 exact ⟨_, _, _, _, rfl, c2, roleOk_iff.2 (by omega)⟩
theorem new_ (l : List Int) (hl : l.length ≤ 2097152) : ∃ h, Ev (fun k => spec_l01New.f k l) (l, 0, h) := by
 have key : ∀ (d i : Nat) (s : Int), 4000 - i = d → ∃ h, Ev (fun k => spec_l01New.l0 k l s i) (l, 0, h) := by
  intro d
  induction d with
  | zero =>
   intro i s hd
   refine ⟨s, Ev.succ ?_⟩
   by_cases h1 : i < l.length
   ·simp only [spec_l01New.l0, nat_lt, h1, ↓reduceIte, show ¬ ((i : Int) < 4000) by omega]
    exact Ev.now _
   ·simp only [spec_l01New.l0, nat_lt, h1, ↓reduceIte]
    exact Ev.now _
  | succ d ih =>
   intro i s hd
   by_cases h1 : i < l.length
   ·obtain ⟨h, e⟩ := ih (i + 1) (Go.bits .and .i64 (wrap64 ((wrap64 ((wrap64 (s * 131)) + (wrap64 (rd l i)))) + 7)) 1073741823) (by omega)
    refine ⟨h, Ev.succ ?_⟩
    simp only [spec_l01New.l0, nat_lt, nat_0, h1, ↓reduceIte, show ((i : Int) < 4000) by omega, up_ (show i < 4611686018427387904 by omega)]
    exact e
   ·refine ⟨s, Ev.succ ?_⟩
    simp only [spec_l01New.l0, nat_lt, h1, ↓reduceIte]
    exact Ev.now _
 unfold spec_l01New.f
 exact key 4000 0 _ rfl
theorem pick_ {b : List Int} {i : Int} (h : Int) (hc : Cu b i) (l : List Int) (h0 : 0 < l.length) (h1 : l.length ≤ 256) : ∃ v i' h', spec_l01PickInt.f b i h l = some (v, i', h') ∧ Cu b i' ∧ v ∈ l := by
 unfold spec_l01PickInt.f
 obtain ⟨v, i1, h1, e1, c1, v0, v1, _⟩ := below_ h hc (l.length : Int) (by omega)
 have hv := v1 (by omega)
 simp only [e1, Option.bind_some, v0, hv, ↓reduceIte]
 refine ⟨_, _, _, rfl, c1, ?_⟩
 show l.getD v.toNat 0 ∈ l
 rw [getDn_ _ (show v.toNat < l.length by omega)]
 exact List.getElem_mem _
end Q
end Go.Proofs.Ytljhfomkakhflaa

namespace Go.Proofs.Ytljhfomkakhflaa
open Go.RowKit Go.Proofs.YtljhfomkakhflaaW.PrintWords Go.Proofs.YtljhfomkakhflaaW.PrintLast Go.Proofs.YtljhfomkakhflaaW.PrintMore Go.Proofs.Ytljhfomkakhflaa.PA
set_option linter.unusedVariables false
set_option linter.unusedSimpArgs false
namespace Q
def Six (list : List Cr) : Prop := ∀ c ∈ list, (0 ≤ c.f1.f0 ∧ c.f1.f0 < 3) ∧ 0 ≤ c.f1.f1 ∧ c.f1.f1 < 2
def MemOk (list : List Cr) : Prop := ∀ c ∈ list, c.f0 = 1 → cOk c = true
theorem role6_ {b : List Int} {i : Int} (h : Int) (hc : Cu b i) : ∃ x y i' h', spec_l05Role.f b i h = some (x, y, i', h') ∧ Cu b i' ∧ (0 ≤ x ∧ x < 3) ∧ 0 ≤ y ∧ y < 2 := by
 unfold spec_l05Role.f
 obtain ⟨x, i1, h1, e1, c1, x0, x1, _⟩ := below_ h hc 3 (by omega)
 obtain ⟨y, i2, h2, e2, c2, y0, y1, _⟩ := below_ h1 c1 2 (by omega)
 have := x1 (by omega)
 have := y1 (by omega)
 simp only [e1, e2, Option.bind_some]
 exact ⟨_, _, _, _, rfl, c2, by omega⟩
theorem cred6_ {b : List Int} {i : Int} (h : Int) (hc : Cu b i) : ∃ (t : Int × Int × Int × Int × Int × Int × Int × Int × Int × Int) (i' h' : Int), spec_l05Cred.f b i h = some (t.1, t.2.1, t.2.2.1, t.2.2.2.1, t.2.2.2.2.1, t.2.2.2.2.2.1, t.2.2.2.2.2.2.1, t.2.2.2.2.2.2.2.1, t.2.2.2.2.2.2.2.2.1, t.2.2.2.2.2.2.2.2.2, i', h') ∧ Cu b i' ∧ ((0 ≤ t.2.1 ∧ t.2.1 < 3) ∧ 0 ≤ t.2.2.1 ∧ t.2.2.1 < 2) ∧ (t.1 = 1 → credOkB t.1 t.2.1 t.2.2.1 t.2.2.2.1 t.2.2.2.2.1 t.2.2.2.2.2.1 t.2.2.2.2.2.2.1 t.2.2.2.2.2.2.2.1 t.2.2.2.2.2.2.2.2.1 t.2.2.2.2.2.2.2.2.2 = true) := by
 unfold spec_l05Cred.f
 obtain ⟨kk, i1, h1, e1, c1, m1⟩ := pick_ h hc [1, 1, 2, 3, 4] (by decide) (by decide)
 obtain ⟨ra, rb, i2, h2, e2, c2, q6⟩ := role6_ h1 c1
 obtain ⟨u, i3, h3, e3, c3, mu⟩ := pick_ h2 c2 [5, 50, 9999, 2] (by decide) (by decide)
 obtain ⟨nn, i4, h4, e4, c4, n0, n1, _⟩ := below_ h3 c3 2 (by omega)
 obtain ⟨w, i5, h5, e5, c5, w0, w1, _⟩ := below_ h4 c4 6 (by omega)
 obtain ⟨sa, sb, i6, h6, e6, c6, _⟩ := role_ h4 c4
 obtain ⟨z, i7, h7, e7, c7, _⟩ := below_ h6 c6 2 (by omega)
 obtain ⟨ta, tb, i8, h8, e8, c8, _⟩ := role_ h6 c6
 simp only [e1, e2, e3, e4, Option.bind_some]
 by_cases k1 : kk = 1
 ·simp only [k1, ↓reduceIte, e5, Option.bind_some]
  exact ⟨(_, ra, rb, _, _, _, _, _, _, _), _, _, rfl, c5, q6, fun _ => by
   have hu : u = 5 ∨ u = 50 ∨ u = 9999 ∨ u = 2 := by simpa using mu
   have := n1 (by omega)
   have := w1 (by omega)
   simp only [credOkB, roleOkB, inB]
   simp
   omega⟩
 ·by_cases k2 : kk = 2
  ·simp only [k2, ↓reduceIte, show ¬ ((2 : Int) = 1) by omega, e6, Option.bind_some]
   exact ⟨(_, ra, rb, _, _, _, _, _, _, _), _, _, rfl, c6, q6, fun e => absurd (show (2 : Int) = 1 from e) (by decide)⟩
  ·by_cases k3 : kk = 3
   ·simp only [k3, ↓reduceIte, show ¬ ((3 : Int) = 1) by omega, show ¬ ((3 : Int) = 2) by omega, e6, e7, Option.bind_some]
    exact ⟨(_, ra, rb, _, _, _, _, _, _, _), _, _, rfl, c7, q6, fun e => absurd (show (3 : Int) = 1 from e) (by decide)⟩
   ·by_cases k4 : kk = 4
    ·simp only [k4, ↓reduceIte, show ¬ ((4 : Int) = 1) by omega, show ¬ ((4 : Int) = 2) by omega, show ¬ ((4 : Int) = 3) by omega, e6, e8, Option.bind_some]
     exact ⟨(_, ra, rb, _, _, _, _, _, _, _), _, _, rfl, c8, q6, fun e => absurd (show (4 : Int) = 1 from e) (by decide)⟩
    ·simp only [k1, k2, k3, k4, ↓reduceIte]
     exact ⟨(_, ra, rb, _, _, _, _, _, _, _), _, _, rfl, c4, q6, fun e => absurd e k1⟩
theorem Six.snoc {l : List Cr} (h : Six l) {c : Cr} (hc : (0 ≤ c.f1.f0 ∧ c.f1.f0 < 3) ∧ 0 ≤ c.f1.f1 ∧ c.f1.f1 < 2) : Six (l ++ [c]) := by
 intro x hx
 rcases List.mem_append.1 hx with hx | hx
 ·exact h x hx
 ·rw [List.mem_singleton.1 hx]; exact hc
theorem creds6_ {b : List Int} : ∀ (d i : Nat) (acc : List Cr) (x y : Int), 9 - i = d → i ≤ 9 → acc.length = i → Six acc → MemOk acc → Cu b x → ∃ l x' y', Ev (fun k => spec_l06Creds.l0 k acc i b x y) (l, x', y') ∧ l.length ≤ 9 ∧ Cu b x' ∧ Six l ∧ MemOk l := by
 intro d
 induction d with
 | zero =>
  intro i acc x y hd hi ha hs hm hc
  obtain ⟨v, x1, y1, e1, c1, v0, v1, _⟩ := below_ y hc 9 (by omega)
  have hv := v1 (by omega)
  refine ⟨acc, x1, y1, Ev.succ ?_, by omega, c1, hs, hm⟩
  simp only [spec_l06Creds.l0, e1, Option.bind_some, w64 (n := 1 + v) (by omega) (by omega), show ¬ ((i : Int) < 1 + v) by omega, ↓reduceIte]
  exact Ev.now _
 | succ d ih =>
  intro i acc x y hd hi ha hs hm hc
  obtain ⟨v, x1, y1, e1, c1, v0, v1, _⟩ := below_ y hc 9 (by omega)
  have hv := v1 (by omega)
  by_cases hlt : (i : Int) < 1 + v
  ·obtain ⟨t, x2, y2, e2, c2, q6, q7⟩ := cred6_ y1 c1
   obtain ⟨l, x', y', e, h1, h2, h3⟩ := ih (i + 1) (acc ++ [⟨t.1, ⟨t.2.1, t.2.2.1⟩, t.2.2.2.1, ⟨t.2.2.2.2.1, t.2.2.2.2.2.1⟩, ⟨t.2.2.2.2.2.2.1, t.2.2.2.2.2.2.2.1⟩, t.2.2.2.2.2.2.2.2.1, t.2.2.2.2.2.2.2.2.2⟩]) x2 y2 (by omega) (by omega) (by simp [ha]) (hs.snoc q6) (fun c hc => by
    rcases List.mem_append.1 hc with hc | hc
    ·exact hm c hc
    ·rw [List.mem_singleton.1 hc]; exact q7) c2
   refine ⟨l, x', y', Ev.succ ?_, h1, h2, h3⟩
   simp only [spec_l06Creds.l0, e1, e2, Option.bind_some, w64 (n := 1 + v) (by omega) (by omega), hlt, ↓reduceIte, show acc.length < 1759218604441 by omega, up_ (show i < 4611686018427387904 by omega)]
   exact e
  ·refine ⟨acc, x1, y1, Ev.succ ?_, by omega, c1, hs, hm⟩
   simp only [spec_l06Creds.l0, e1, Option.bind_some, w64 (n := 1 + v) (by omega) (by omega), hlt, ↓reduceIte]
   exact Ev.now _
theorem draw_Words6 (l : List Int) (hl : l.length ≤ 2097152) : ∃ r : List Cr, Ev (fun k => spec_DrawWords.f k l) r ∧ r.length ≤ 9 ∧ Six r ∧ MemOk r := by
 obtain ⟨h, e⟩ := new_ l hl
 obtain ⟨r, x', y', e2, h2, _, h3⟩ := creds6_ (b := l) 9 0 [] 0 h rfl (by omega) rfl (fun c hc => by simp at hc) (fun c hc => by simp at hc) ⟨by omega, by omega, hl⟩
 refine ⟨r, ?_, h2, h3⟩
 unfold spec_DrawWords.f
 refine Ev.bind e ?_
 unfold spec_l06Creds.f
 refine Ev.bind e2 ?_
 exact Ev.now _
end Q
end Go.Proofs.Ytljhfomkakhflaa
