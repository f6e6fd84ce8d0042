/-
The reference's proof of a fact: it proves it, out of its own words alone.
-/
import Derived.Test.YtcbhmcpdnokbiaaKLPAx17
import Derived.Test.YtcbhmcpdnokbiaaKLQ43
namespace Go.Proofs.Ytcbhmcpdnokbiaa
open Go.RowKit Go.Proofs.YtcbhmcpdnokbiaaW.PrintWords Go.Proofs.YtcbhmcpdnokbiaaW.PrintLast Go.Proofs.YtcbhmcpdnokbiaaW.PrintMore Go.Proofs.Ytcbhmcpdnokbiaa.PA
set_option linter.unusedVariables false
set_option linter.unusedSimpArgs false
namespace Q
theorem rdB_set {W : List Bool} {n : Nat} {j : Int} (hn : n < W.length) : rdOf false (W.set n true) j = if j.toNat = n then true else rdOf false W j := by
 unfold rdOf
 rw [List.getD_eq_getElem?_getD, List.getD_eq_getElem?_getD, List.getElem?_set]
 by_cases h : n = j.toNat
 ·subst h
  simp [hn]
 ·rw [if_neg h, if_neg (fun e => h e.symm)]
theorem Just.two {c : Cr} {f : Fc} {ps : List Fc} (h : Just c f ps) : ps.length ≤ 2 := by
 rcases h.2 with ⟨_, _, rfl⟩ | ⟨_, rfl⟩ | ⟨_, x, rfl⟩ | ⟨_, rfl⟩ <;> simp
structure Fine (list : List Cr) (all : List St) : Prop where
 good : GoodAll list all
 few : all.length ≤ 144
theorem Fine.at {list : List Cr} {all : List St} (h : Fine list all) {i : Nat} (hi : i < all.length) : GoodSt list all i (rdS all i) := by rw [rdS_ hi]; exact h.good i hi
theorem Fine.two {list : List Cr} {all : List St} (h : Fine list all) {i : Nat} (hi : i < all.length) : (rdS all i).f2.length ≤ 2 := by
 have := (h.at hi).2.2.2.two
 rwa [List.length_map] at this
theorem want_l1 {list : List Cr} {all : List St} (hf : Fine list all) (e i : Nat) (hi : i ≤ e) (he : e < all.length) : ∀ (d kk : Nat) (W : List Bool), (rdS all i).f2.length - kk = d → kk ≤ (rdS all i).f2.length → W.length = e + 1 →
  ∃ W' : List Bool, W'.length = e + 1 ∧ (∀ j : Int, rdOf false W j = true → rdOf false W' j = true) ∧ (∀ j : Int, (i : Int) ≤ j → rdOf false W' j = rdOf false W j) ∧
   (rdOf false W (i : Int) = true → ∀ (q : Nat) (h : q < (rdS all i).f2.length), kk ≤ q → rdOf false W' (rdS all i).f2[q] = true) ∧
   ∀ R, Ev (fun k => spec_ProofOf.l0 k all (e : Int) W' ((i : Int) - 1)) R → Ev (fun k => spec_ProofOf.l1 k all (e : Int) W (i : Int) (kk : Int)) R := by
 have hia : i < all.length := by omega
 have hF := (hf.at hia).2.2.1
 have h2 := hf.two hia
 have h144 := hf.few
 have hrd : rd_T63 all (i : Int) = rdS all (i : Int) := rfl
 intro d
 induction d with
 | zero =>
  intro kk W hd hk hW
  refine ⟨W, hW, fun _ h => h, fun _ _ => rfl, fun _ q h hq => by omega, fun R hR => Ev.succ ?_⟩
  simp only [spec_ProofOf.l1, nat_lt, nat_0, hia, ↓reduceIte, hrd, show ¬ kk < (rdS all i).f2.length by omega, down_ (show i < 4611686018427387904 by omega)]
  exact hR
 | succ d ih =>
  intro kk W hd hk hW
  have hkl : kk < (rdS all i).f2.length := by omega
  by_cases hw : rdOf false W (i : Int) = true
  ·have hb := hF (rdS all i).f2[kk] (List.getElem_mem hkl)
   obtain ⟨v, hv⟩ := Int.eq_ofNat_of_zero_le hb.1
   have hvi : v < i := by omega
   have hvW : v < W.length := by omega
   have hne : ∀ j : Int, (i : Int) ≤ j → rdOf false (W.set v true) j = rdOf false W j := by
    intro j hj
    rw [rdB_set hvW, if_neg (by omega)]
   obtain ⟨W', c1, c2, c3, c4, c5⟩ := ih (kk + 1) (W.set v true) (by omega) (by omega) (by rw [List.length_set]; exact hW)
   refine ⟨W', c1, fun j h => c2 j ?_, fun j hj => (c3 j hj).trans (hne j hj), ?_, fun R hR => Ev.succ ?_⟩
   ·rw [rdB_set hvW]
    split
    ·rfl
    ·exact h
   ·intro _ q hq hkq
    by_cases hqk : q = kk
    ·subst hqk
     refine c2 _ ?_
     rw [hv, rdB_set hvW, if_pos (by omega)]
    ·exact c4 (by rw [hne _ (Int.le_refl _)]; exact hw) q hq (by omega)
   ·have hv2 : rd (rdS all i).f2 (kk : Int) = (v : Int) := by rw [rdI hkl, hv]
    simp only [spec_ProofOf.l1, nat_lt, nat_0, hia, ↓reduceIte, hrd, hkl, show i < W.length by omega, hw, hv2, hvW, Int.toNat_natCast, up_ (show kk < 4611686018427387904 by omega)]
    exact c5 R hR
  ·refine ⟨W, hW, fun _ h => h, fun _ _ => rfl, fun h => absurd h hw, fun R hR => Ev.succ ?_⟩
   simp only [spec_ProofOf.l1, nat_lt, nat_0, hia, ↓reduceIte, hrd, hkl, show i < W.length by omega, hw, down_ (show i < 4611686018427387904 by omega)]
   exact hR
theorem want_l0 {list : List Cr} {all : List St} (hf : Fine list all) (e : Nat) (he : e < all.length) : ∀ (n : Nat) (W : List Bool), n ≤ e + 1 → W.length = e + 1 →
  (∀ i : Nat, n ≤ i → i ≤ e → rdOf false W (i : Int) = true → ∀ j ∈ (rdS all i).f2, rdOf false W j = true) →
  ∃ W' : List Bool, W'.length = e + 1 ∧ (∀ j : Int, rdOf false W j = true → rdOf false W' j = true) ∧ (∀ i : Nat, i ≤ e → rdOf false W' (i : Int) = true → ∀ j ∈ (rdS all i).f2, rdOf false W' j = true) ∧
   ∀ R, Ev (fun k => spec_ProofOf.l2 k all (e : Int) W' (List.replicate (e + 1) 0) [] 0) R → Ev (fun k => spec_ProofOf.l0 k all (e : Int) W ((n : Int) - 1)) R := by
 have h144 := hf.few
 intro n
 induction n with
 | zero =>
  intro W _ hW hc
  refine ⟨W, hW, fun _ h => h, fun i hi => hc i (Nat.zero_le _) hi, fun R hR => Ev.succ ?_⟩
  have h1 : wrap64 ((e : Int) + 1) = ((e + 1 : Nat) : Int) := up_ (by omega)
  simp only [spec_ProofOf.l0, show ¬ (((0 : Nat) : Int) - 1 ≥ 0) by omega, ↓reduceIte, h1, nat_0, Int.toNat_natCast, show e + 1 ≤ 35184372088832 by omega]
  exact hR
 | succ n ih =>
  intro W hn hW hc
  have hia : n < all.length := by omega
  have hF := (hf.at hia).2.2.1
  obtain ⟨W1, a1, a2, a3, a4, a5⟩ := want_l1 hf e n (by omega) he _ 0 W rfl (Nat.zero_le _) hW
  have hcl : ∀ i : Nat, n ≤ i → i ≤ e → rdOf false W1 (i : Int) = true → ∀ j ∈ (rdS all i).f2, rdOf false W1 j = true := by
   intro i hi hie hw j hj
   by_cases hin : i = n
   ·subst hin
    obtain ⟨q, hq, rfl⟩ := List.mem_iff_getElem.1 hj
    exact a4 (by rw [← a3 _ (Int.le_refl _)]; exact hw) q hq (Nat.zero_le _)
   ·rw [a3 _ (by omega)] at hw
    exact a2 _ (hc i (by omega) hie hw j hj)
  obtain ⟨W', b1, b2, b3, b4⟩ := ih W1 (by omega) a1 hcl
  ·refine ⟨W', b1, fun j h => b2 j (a2 j h), b3, fun R hR => Ev.succ ?_⟩
   have h1 : (((n + 1 : Nat) : Int) - 1) = (n : Int) := by omega
   simp only [spec_ProofOf.l0, h1, show (n : Int) ≥ 0 by omega, ↓reduceIte]
   exact a5 R (b4 R hR)
theorem out_l3 {list : List Cr} {all : List St} (hf : Fine list all) (e i : Nat) (hi : i ≤ e) (he : e < all.length) (W : List Bool) (at_ : List Int) (hat : at_.length = e + 1) (out : List St) (ho : out.length ≤ 1000) (c : Cr) (f : Fc) :
  ∀ (d kk : Nat) (acc : List Int), (rdS all i).f2.length - kk = d → kk ≤ (rdS all i).f2.length → acc.length = kk →
  ∃ fr : List Int, ∀ R, Ev (fun k => spec_ProofOf.l2 k all (e : Int) W (at_.set i (out.length : Int)) (out ++ [⟨c, f, fr⟩]) ((i + 1 : Nat) : Int)) R →
   Ev (fun k => spec_ProofOf.l3 k all (e : Int) W at_ out (i : Int) (kk : Int) c.f0 c.f1.f0 c.f1.f1 c.f2 c.f3.f0 c.f3.f1 c.f4.f0 c.f4.f1 c.f5 c.f6 f.f0.f0 f.f0.f1 f.f1 acc) R := by
 have hia : i < all.length := by omega
 have hF := (hf.at hia).2.2.1
 have h2 := hf.two hia
 have h144 := hf.few
 have hrd : rd_T63 all (i : Int) = rdS all (i : Int) := rfl
 intro d
 induction d with
 | zero =>
  intro kk acc hd hk ha
  refine ⟨acc, fun R hR => Ev.succ ?_⟩
  simp only [spec_ProofOf.l3, nat_lt, nat_0, hia, ↓reduceIte, hrd, show ¬ kk < (rdS all i).f2.length by omega, show i < at_.length by omega, show out.length < 1099511627776 by omega, Int.toNat_natCast, up_ (show i < 4611686018427387904 by omega)]
  exact hR
 | succ d ih =>
  intro kk acc hd hk ha
  have hkl : kk < (rdS all i).f2.length := by omega
  have hb := hF (rdS all i).f2[kk] (List.getElem_mem hkl)
  obtain ⟨v, hv⟩ := Int.eq_ofNat_of_zero_le hb.1
  have hv2 : rd (rdS all i).f2 (kk : Int) = (v : Int) := by rw [rdI hkl, hv]
  obtain ⟨fr, hfr⟩ := ih (kk + 1) (acc ++ [rd at_ (v : Int)]) (by omega) (by omega) (by rw [List.length_append, List.length_singleton, ha])
  refine ⟨fr, fun R hR => Ev.succ ?_⟩
  simp only [spec_ProofOf.l3, nat_lt, nat_0, hia, ↓reduceIte, hrd, hkl, hv2, show v < at_.length by omega, show acc.length < 17592186044416 by omega, up_ (show kk < 4611686018427387904 by omega)]
  exact hfr R hR
theorem out_l2 {list : List Cr} {all : List St} (hf : Fine list all) (e : Nat) (he : e < all.length) (W : List Bool) (hW : W.length = e + 1) : ∀ (d i : Nat) (at_ : List Int) (out : List St), e + 1 - i = d → i ≤ e + 1 → at_.length = e + 1 → out.length ≤ i →
  ∃ out' : List St, (∀ c ∈ out'.map (·.f0), c ∈ out.map (·.f0) ∨ ∃ q : Nat, q ≤ e ∧ c = (rdS all q).f0) ∧ (∀ c ∈ out.map (·.f0), c ∈ out'.map (·.f0)) ∧ (∀ q : Nat, i ≤ q → q ≤ e → rdOf false W (q : Int) = true → (rdS all q).f0 ∈ out'.map (·.f0)) ∧ out'.length ≤ e + 1 ∧
   Ev (fun k => spec_ProofOf.l2 k all (e : Int) W at_ out (i : Int)) (out', true) := by
 have h144 := hf.few
 intro d
 induction d with
 | zero =>
  intro i at_ out hd hi hat ho
  refine ⟨out, fun c h => .inl h, fun _ h => h, fun q h1 h2 => by omega, by omega, Ev.succ ?_⟩
  simp only [spec_ProofOf.l2, show ¬ ((i : Int) ≤ (e : Int)) by omega, ↓reduceIte]
  exact Ev.now _
 | succ d ih =>
  intro i at_ out hd hi hat ho
  have hia : i < all.length := by omega
  have hrd : rd_T63 all (i : Int) = rdS all (i : Int) := rfl
  by_cases hw : rdOf false W (i : Int) = true
  ·obtain ⟨fr, hfr⟩ := out_l3 hf e i (by omega) he W at_ hat out (by omega) (rdS all i).f0 (rdS all i).f1 _ 0 [] rfl (Nat.zero_le _) rfl
   obtain ⟨out', b1, b2, b3, b4, b5⟩ := ih (i + 1) (at_.set i (out.length : Int)) (out ++ [⟨(rdS all i).f0, (rdS all i).f1, fr⟩]) (by omega) (by omega) (by rw [List.length_set]; exact hat) (by rw [List.length_append, List.length_singleton]; omega)
   refine ⟨out', ?_, fun c h => b2 c (by rw [List.map_append]; exact List.mem_append_left _ h), ?_, b4, Ev.succ ?_⟩
   ·intro c h
    rcases b1 c h with h | h
    ·rw [List.map_append, List.mem_append] at h
     rcases h with h | h
     ·exact .inl h
     ·exact .inr ⟨i, by omega, by simpa using h⟩
    ·exact .inr h
   ·intro q h1 h2 h3
    by_cases hq : q = i
    ·subst hq
     exact b2 _ (by rw [List.map_append]; exact List.mem_append_right _ (by simp))
    ·exact b3 q (by omega) h2 h3
   ·simp only [spec_ProofOf.l2, show (i : Int) ≤ (e : Int) by omega, nat_lt, nat_0, ↓reduceIte, show i < W.length by omega, hw, hia, hrd]
    exact hfr _ b5
  ·obtain ⟨out', b1, b2, b3, b4, b5⟩ := ih (i + 1) at_ out (by omega) (by omega) hat (by omega)
   refine ⟨out', b1, b2, ?_, b4, Ev.succ ?_⟩
   ·intro q h1 h2 h3
    by_cases hq : q = i
    ·subst hq
     exact absurd h3 hw
    ·exact b3 q (by omega) h2 h3
   ·simp only [spec_ProofOf.l2, show (i : Int) ≤ (e : Int) by omega, nat_lt, nat_0, ↓reduceIte, show i < W.length by omega, hw, up_ (show i < 4611686018427387904 by omega)]
    exact b5
theorem rdB_rep (n : Nat) (j : Int) : rdOf false (List.replicate n false) j = false := by
 unfold rdOf
 rw [List.getD_eq_getElem?_getD, List.getElem?_replicate]
 split <;> rfl
theorem l7_Proof (list : List Cr) (hil : list.length ≤ 1048576) {f : Fc} (hfm : f ∈ factsF list) :
  ∃ out : List St, Ev (fun k => spec_ProofOf.f k list f.f0.f0 f.f0.f1 f.f1) (out, true) ∧ Der (out.map (·.f0)) f ∧ (∀ c ∈ out.map (·.f0), c ∈ list) ∧ out.length ≤ 144 := by
 obtain ⟨all, h1, h2, h3⟩ := l7_All list hil
 have hlen : all.length ≤ 144 := by rw [map_len h1]; exact factsF_len list
 have hfine : Fine list all := ⟨h2, hlen⟩
 have hat := at_mem (l := all) (f := f) (by rw [h1]; exact hfm)
 obtain ⟨e, he, e1, e2⟩ := at_ge hat
 have hset : ∀ j : Int, rdOf false ((List.replicate (e + 1) false).set e true) j = if j.toNat = e then true else false := by
  intro j
  rw [rdB_set (by rw [List.length_replicate]; omega), rdB_rep]
 obtain ⟨W, a1, a2, a3, a4⟩ := want_l0 hfine e he (e + 1) ((List.replicate (e + 1) false).set e true) (Nat.le_refl _) (by rw [List.length_set, List.length_replicate]) (fun i h1 h2 => by omega)
 obtain ⟨out, b1, b2, b3, b4, b5⟩ := out_l2 hfine e he W a1 _ 0 (List.replicate (e + 1) 0) [] rfl (Nat.zero_le _) (by rw [List.length_replicate]) (Nat.le_refl _)
 have hder : ∀ (n q : Nat), q < n → q ≤ e → rdOf false W (q : Int) = true → Der (out.map (·.f0)) (rdS all q).f1 := by
  intro n
  induction n with
  | zero => intro q h; omega
  | succ n ih =>
   intro q hq hqe hw
   have hqa : q < all.length := by omega
   obtain ⟨g1, g2, g3, g4⟩ := hfine.at hqa
   refine g4.der (b3 q (Nat.zero_le _) hqe hw) g2 ?_
   intro p hp
   obtain ⟨j, hj, rfl⟩ := List.mem_map.1 hp
   obtain ⟨v, hv⟩ := Int.eq_ofNat_of_zero_le (g3 j hj).1
   have := g3 j hj
   subst hv
   exact ih v (by omega) (by omega) (a3 q hqe hw _ hj)
 refine ⟨out, ?_, ?_, ?_, by omega⟩
 ·unfold spec_ProofOf.f
  refine Ev.bind h3 ?_
  refine Ev.bind (l7_at all _ _ _ (by omega)) ?_
  have e3 : atS all ⟨⟨f.f0.f0, f.f0.f1⟩, f.f1⟩ = (e : Int) := e1
  have h4 : wrap64 ((e : Int) + 1) = ((e + 1 : Nat) : Int) := up_ (by omega)
  simp only [e3, show ¬ ((e : Int) < 0) by omega, ↓reduceIte, h4, nat_0, Int.toNat_natCast, show e + 1 ≤ 281474976710656 by omega, Option.bind_some, nat_lt, List.length_replicate, show e < e + 1 by omega]
  have h5 := a4 _ b5
  have h6 : (((e + 1 : Nat) : Int) - 1) = (e : Int) := by omega
  rw [h6] at h5
  exact h5
 ·rw [← e2]
  exact hder (e + 1) e (by omega) (Nat.le_refl _) (a2 _ (by rw [hset]; simp))
 ·intro c hc
  rcases b1 c hc with h | ⟨q, hq, rfl⟩
  ·exact absurd h (by simp)
  ·exact (hfine.at (show q < all.length by omega)).1
def isCr (a b : Cr) : Bool := (a.f0 == b.f0 && ((a.f1.f0 == b.f1.f0 && (a.f1.f1 == b.f1.f1)) && (a.f2 == b.f2 && ((a.f3.f0 == b.f3.f0 && (a.f3.f1 == b.f3.f1)) && ((a.f4.f0 == b.f4.f0 && (a.f4.f1 == b.f4.f1)) && (a.f5 == b.f5 && (a.f6 == b.f6)))))))
theorem isCr_iff (a b : Cr) : isCr a b = true ↔ a = b := by
 obtain ⟨a0, ⟨a1, a2⟩, a3, ⟨a4, a5⟩, ⟨a6, a7⟩, a8, a9⟩ := a
 obtain ⟨b0, ⟨b1, b2⟩, b3, ⟨b4, b5⟩, ⟨b6, b7⟩, b8, b9⟩ := b
 simp only [isCr, Bool.and_eq_true, beq_iff_eq]
 constructor
 ·rintro ⟨rfl, ⟨rfl, rfl⟩, rfl, ⟨rfl, rfl⟩, ⟨rfl, rfl⟩, rfl, rfl⟩
  rfl
 ·intro h
  injection h with h0 h1 h2 h3 h4 h5 h6
  injection h1 with h11 h12
  injection h3 with h31 h32
  injection h4 with h41 h42
  exact ⟨h0, ⟨h11, h12⟩, h2, ⟨h31, h32⟩, ⟨h41, h42⟩, h5, h6⟩
theorem creds_in1 (out : List St) (u : List Cr) (i : Nat) (hi : i < out.length) (hu : u.length ≤ 1000) : ∀ (d j : Nat) (b : Bool), u.length - j = d → j ≤ u.length → ∀ R,
  Ev (fun k => spec_CredsIn.l1 k out u (i : Int) (b || (u.drop j).any fun x => isCr x (rdS out i).f0) (u.length : Int)) R → Ev (fun k => spec_CredsIn.l1 k out u (i : Int) b (j : Int)) R := by
 intro d
 induction d with
 | zero =>
  intro j b hd hj R hR
  have : j = u.length := by omega
  subst this
  simpa using hR
 | succ d ih =>
  intro j b hd hj R hR
  have hjl : j < u.length := by omega
  rw [List.drop_eq_getElem_cons hjl, List.any_cons] at hR
  refine Ev.succ ?_
  cases b with
  | true =>
   simp only [spec_CredsIn.l1, nat_lt, hjl, ↓reduceIte, up_ (show j < 4611686018427387904 by omega)]
   exact ih (j + 1) true (by omega) (by omega) R (by simpa using hR)
  | false =>
   simp only [spec_CredsIn.l1, nat_lt, nat_0, hjl, hi, Bool.false_eq_true, ↓reduceIte, getD_C hjl, up_ (show j < 4611686018427387904 by omega)]
   exact ih (j + 1) (isCr u[j] (rdS out i).f0) (by omega) (by omega) R (by simpa only [Bool.false_or, Bool.or_assoc] using hR)
theorem creds_in0 (out : List St) (ho : out.length ≤ 1000) : ∀ (d i : Nat) (u : List Cr), out.length - i = d → i ≤ out.length → u.length ≤ i →
  ∃ u' : List Cr, (∀ c, c ∈ u' ↔ c ∈ u ∨ c ∈ (out.drop i).map (·.f0)) ∧ u'.length ≤ out.length ∧ Ev (fun k => spec_CredsIn.l0 k out u (i : Int)) u' := by
 intro d
 induction d with
 | zero =>
  intro i u hd hi hu
  have : i = out.length := by omega
  subst this
  refine ⟨u, by simp, hu, Ev.succ ?_⟩
  simp only [spec_CredsIn.l0, nat_lt, Nat.lt_irrefl, ↓reduceIte]
  exact Ev.now _
 | succ d ih =>
  intro i u hd hi hu
  have hil : i < out.length := by omega
  have hany : (u.any fun x => isCr x (rdS out i).f0) = true ↔ (rdS out i).f0 ∈ u := by
   rw [List.any_eq_true]
   constructor
   ·rintro ⟨x, hx, h⟩
    rw [(isCr_iff _ _).1 h] at hx
    exact hx
   ·intro h
    exact ⟨_, h, (isCr_iff _ _).2 rfl⟩
  have hrd : rd_T63 out (i : Int) = rdS out (i : Int) := rfl
  have hmap : (out.drop i).map (·.f0) = (rdS out i).f0 :: (out.drop (i + 1)).map (·.f0) := by
   rw [List.drop_eq_getElem_cons hil, List.map_cons, rdS_ hil]
  by_cases hm : (rdS out i).f0 ∈ u
  ·obtain ⟨u', a1, a2, a3⟩ := ih (i + 1) u (by omega) (by omega) (by omega)
   refine ⟨u', fun c => ?_, a2, Ev.succ ?_⟩
   ·rw [a1, hmap, List.mem_cons]
    constructor
    ·rintro (h | h)
     ·exact .inl h
     ·exact .inr (.inr h)
    ·rintro (h | rfl | h)
     ·exact .inl h
     ·exact .inl hm
     ·exact .inr h
   ·simp only [spec_CredsIn.l0, nat_lt, hil, ↓reduceIte]
    refine creds_in1 out u i hil (by omega) _ 0 false rfl (Nat.zero_le _) _ ?_
    refine Ev.succ ?_
    simp only [List.drop_zero, hany.2 hm, Bool.or_true, spec_CredsIn.l1, nat_lt, Nat.lt_irrefl, ↓reduceIte, up_ (show i < 4611686018427387904 by omega)]
    exact a3
  ·obtain ⟨u', a1, a2, a3⟩ := ih (i + 1) (u ++ [(rdS out i).f0]) (by omega) (by omega) (by rw [List.length_append, List.length_singleton]; omega)
   refine ⟨u', fun c => ?_, a2, Ev.succ ?_⟩
   ·rw [a1, hmap, List.mem_cons, List.mem_append, List.mem_singleton, or_assoc]
   ·simp only [spec_CredsIn.l0, nat_lt, hil, ↓reduceIte]
    refine creds_in1 out u i hil (by omega) _ 0 false rfl (Nat.zero_le _) _ ?_
    refine Ev.succ ?_
    simp only [List.drop_zero, Bool.eq_false_iff.2 (mt hany.1 hm), Bool.or_false, Bool.false_eq_true, spec_CredsIn.l1, nat_lt, nat_0, Nat.lt_irrefl, hil, ↓reduceIte, hrd, show u.length < 1759218604441 by omega, up_ (show i < 4611686018427387904 by omega)]
    exact a3
theorem l7_Creds (out : List St) (ho : out.length ≤ 1000) : ∃ u : List Cr, (∀ c, c ∈ u ↔ c ∈ out.map (·.f0)) ∧ u.length ≤ out.length ∧ Ev (fun k => spec_CredsIn.f k out) u := by
 obtain ⟨u, a1, a2, a3⟩ := creds_in0 out ho out.length 0 [] rfl (Nat.zero_le _) (Nat.le_refl _)
 refine ⟨u, fun c => ?_, a2, ?_⟩
 ·rw [a1]
  simp
 ·unfold spec_CredsIn.f
  exact a3
end Q
end Go.Proofs.Ytcbhmcpdnokbiaa
