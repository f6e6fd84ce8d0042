/-
To be one of the facts of a list of words: by rules. More words, no fewer facts; what holds on a day held before.
-/
import Derived.Test.YteehgihclnlaoaaKDQ15
namespace Go.Proofs.Yteehgihclnlaoaa
open Go.RowKit Go.Proofs.YteehgihclnlaoaaW.PrintWords Go.Proofs.YteehgihclnlaoaaW.PrintLast Go.Proofs.YteehgihclnlaoaaW.PrintMore Go.Proofs.Yteehgihclnlaoaa.PA
set_option linter.unusedVariables false
set_option linter.unusedSimpArgs false
namespace Q
inductive Der (list : List Cr) : Fc → Prop
 | mem (c : Cr) (h : c ∈ list) (ok : cOk c = true) (hk : c.f0 = 1) : Der list ⟨c.f1, c.f2⟩
 | frm (c : Cr) (h : c ∈ list) (ok : cOk c = true) (hk : c.f0 = 2) (w : Int) (d : Der list ⟨c.f3, w⟩) : Der list ⟨c.f1, w⟩
 | lnk (c : Cr) (h : c ∈ list) (ok : cOk c = true) (hk : c.f0 = 3) (x w : Int) (d1 : Der list ⟨c.f3, x⟩) (d2 : Der list ⟨⟨x, c.f4.f1⟩, w⟩) : Der list ⟨c.f1, w⟩
 | bth (c : Cr) (h : c ∈ list) (ok : cOk c = true) (hk : c.f0 = 4) (w : Int) (d1 : Der list ⟨c.f3, w⟩) (d2 : Der list ⟨c.f4, w⟩) : Der list ⟨c.f1, w⟩
theorem Der.more {l l' : List Cr} (h : ∀ c ∈ l, cOk c = true → c ∈ l') {f : Fc} (d : Der l f) : Der l' f := by
 induction d with
 | mem c hc ok hk => exact .mem c (h c hc ok) ok hk
 | frm c hc ok hk w _ ih => exact .frm c (h c hc ok) ok hk w ih
 | lnk c hc ok hk x w _ _ ih1 ih2 => exact .lnk c (h c hc ok) ok hk x w ih1 ih2
 | bth c hc ok hk w _ _ ih1 ih2 => exact .bth c (h c hc ok) ok hk w ih1 ih2
theorem fc_eta {x : Fc} {r : Rl} (h : x.f0 = r) : x = ⟨r, x.f1⟩ := by rw [← h]
theorem telF_der {list : List Cr} {l : List Fc} (hl : ∀ x ∈ l, Der list x) {c : Cr} (hc : c ∈ list) (ok : cOk c = true) : ∀ x ∈ telF l c, Der list x := by
 intro y hy
 unfold telF at hy
 rcases cOk_kind ok with hk | hk | hk | hk
 ·simp only [hk, ↓reduceIte, List.mem_singleton] at hy
  subst hy
  exact .mem c hc ok hk
 ·simp only [hk, show ¬ ((2 : Int) = 1) by omega, ↓reduceIte, List.mem_map, List.mem_filter, decide_eq_true_eq] at hy
  obtain ⟨x, ⟨hx, e⟩, rfl⟩ := hy
  exact .frm c hc ok hk x.f1 (fc_eta e ▸ hl x hx)
 ·simp only [hk, show ¬ ((3 : Int) = 1) by omega, show ¬ ((3 : Int) = 2) by omega, ↓reduceIte, List.mem_flatMap, List.mem_map, List.mem_filter, decide_eq_true_eq] at hy
  obtain ⟨x, ⟨hx, e⟩, z, ⟨hz, e2⟩, rfl⟩ := hy
  exact .lnk c hc ok hk x.f1 z.f1 (fc_eta e ▸ hl x hx) (fc_eta e2 ▸ hl z hz)
 ·simp only [hk, show ¬ ((4 : Int) = 1) by omega, show ¬ ((4 : Int) = 2) by omega, show ¬ ((4 : Int) = 3) by omega, ↓reduceIte, List.mem_map, List.mem_filter, decide_eq_true_eq] at hy
  obtain ⟨x, ⟨⟨hx, e⟩, h2⟩, rfl⟩ := hy
  exact .bth c hc ok hk x.f1 (fc_eta e ▸ hl x hx) (hl _ h2)
theorem passF_der {list : List Cr} : ∀ (cs : List Cr), (∀ c ∈ cs, c ∈ list) → ∀ {l : List Fc}, (∀ x ∈ l, Der list x) → ∀ x ∈ passF cs l, Der list x := by
 intro cs
 induction cs with
 | nil => exact fun _ _ h => h
 | cons c cs ih =>
  intro hs l hl
  refine ih (fun d hd => hs d (by simp [hd])) ?_
  intro x hx
  unfold stepF at hx
  split at hx
  ·rename_i ok
   rcases (mem_foldl _ _ _).1 hx with h | h
   ·exact hl x h
   ·exact telF_der hl (hs c (by simp)) ok x h
  ·exact hl x hx
theorem iterF_der {list : List Cr} : ∀ (n : Nat) {l : List Fc}, (∀ x ∈ l, Der list x) → ∀ x ∈ iterF n list l, Der list x := by
 intro n
 induction n with
 | zero => exact fun h => h
 | succ n ih =>
  intro l h
  unfold iterF
  split
  ·exact ih (passF_der list (fun _ h => h) h)
  ·exact passF_der list (fun _ h => h) h
theorem passF_pre (cs : List Cr) : ∀ l : List Fc, ∃ t, passF cs l = l ++ t := by
 induction cs with
 | nil => exact fun l => ⟨[], by simp [passF]⟩
 | cons c cs ih =>
  intro l
  obtain ⟨t, ht⟩ := stepF_pre l c
  obtain ⟨t', ht'⟩ := ih (stepF l c)
  refine ⟨t ++ t', ?_⟩
  show passF cs (stepF l c) = _
  rw [ht', ht, List.append_assoc]
theorem pre_eq {l t : List Fc} (h : (l ++ t).length ≤ l.length) : l ++ t = l := by
 have : t = [] := by
  rw [List.length_append] at h
  exact List.length_eq_zero_iff.1 (by omega)
 rw [this, List.append_nil]
theorem passF_fix {cs : List Cr} : ∀ {l : List Fc}, (passF cs l).length ≤ l.length → ∀ c ∈ cs, stepF l c = l := by
 induction cs with
 | nil => intro l _ c hc; simp at hc
 | cons c cs ih =>
  intro l h d hd
  have h' : (passF cs (stepF l c)).length ≤ l.length := h
  have h1 := stepF_len l c
  have h2 := passF_len cs (stepF l c)
  obtain ⟨t, ht⟩ := stepF_pre l c
  have e : stepF l c = l := by rw [ht]; exact pre_eq (by rw [← ht]; omega)
  rcases List.mem_cons.1 hd with rfl | hd
  ·exact e
  ·rw [e] at h'
   exact ih h' d hd
theorem iterF_fix (list : List Cr) : ∀ (n : Nat) {l : List Fc}, Right l → l.Nodup → 145 ≤ n + l.length → (passF list (iterF n list l)).length ≤ (iterF n list l).length := by
 intro n
 induction n with
 | zero =>
  intro l h1 h2 h3
  have := right_len h1 h2
  omega
 | succ n ih =>
  intro l h1 h2 h3
  unfold iterF
  split
  ·rename_i hg
   exact ih (passF_right list h1) (passF_nodup list h2) (by omega)
  ·rename_i hg
   obtain ⟨t, ht⟩ := passF_pre list l
   have e : passF list l = l := by rw [ht]; exact pre_eq (by rw [← ht]; omega)
   rw [e, e]
   omega
theorem factsF_closed (list : List Cr) {c : Cr} (hc : c ∈ list) (ok : cOk c = true) : ∀ x ∈ telF (factsF list) c, x ∈ factsF list := by
 have h := passF_fix (iterF_fix list 145 right_nil List.nodup_nil (by simp)) c hc
 intro x hx
 have e : stepF (factsF list) c = factsF list := h
 unfold stepF at e
 rw [if_pos ok] at e
 rw [← e]
 exact (mem_foldl _ _ _).2 (.inr hx)
theorem mem_factsF {list : List Cr} {f : Fc} : f ∈ factsF list ↔ Der list f := by
 constructor
 ·exact fun h => iterF_der 145 (fun x hx => by simp at hx) f h
 ·intro d
  induction d with
  | mem c hc ok hk => exact factsF_closed list hc ok _ (by unfold telF; simp [hk])
  | frm c hc ok hk w _ ih =>
   refine factsF_closed list hc ok _ ?_
   unfold telF
   simp only [hk, show ¬ ((2 : Int) = 1) by omega, ↓reduceIte, List.mem_map, List.mem_filter, decide_eq_true_eq]
   exact ⟨⟨c.f3, w⟩, ⟨ih, rfl⟩, rfl⟩
  | lnk c hc ok hk x w _ _ ih1 ih2 =>
   refine factsF_closed list hc ok _ ?_
   unfold telF
   simp only [hk, show ¬ ((3 : Int) = 1) by omega, show ¬ ((3 : Int) = 2) by omega, ↓reduceIte, List.mem_flatMap, List.mem_map, List.mem_filter, decide_eq_true_eq]
   exact ⟨⟨c.f3, x⟩, ⟨ih1, rfl⟩, ⟨⟨x, c.f4.f1⟩, w⟩, ⟨ih2, rfl⟩, rfl⟩
  | bth c hc ok hk w _ _ ih1 ih2 =>
   refine factsF_closed list hc ok _ ?_
   unfold telF
   simp only [hk, show ¬ ((4 : Int) = 1) by omega, show ¬ ((4 : Int) = 2) by omega, show ¬ ((4 : Int) = 3) by omega, ↓reduceIte, List.mem_map, List.mem_filter, decide_eq_true_eq]
   exact ⟨⟨c.f3, w⟩, ⟨⟨ih1, rfl⟩, ih2⟩, rfl⟩
theorem memF_iff {l : List Cr} {r : Rl} {w : Int} : memF l r w = true ↔ Der l ⟨r, w⟩ := by
 unfold memF
 rw [decide_eq_true_iff, mem_factsF]
theorem mem_alive {l : List Cr} {now : Int} {c : Cr} : c ∈ aliveC now l ↔ c ∈ l ∧ cOk c = true ∧ now ≤ c.f5 := by
 unfold aliveC
 rw [List.mem_filter, Bool.and_eq_true, decide_eq_true_eq]
theorem holds_mono {l : List Cr} {r : Rl} {w d d' : Int} (h : holdsC l r w d = true) (hd : d' ≤ d) : holdsC l r w d' = true := by
 unfold holdsC at h ⊢
 rw [memF_iff] at h ⊢
 refine h.more (fun c hc _ => ?_)
 rw [mem_alive] at hc ⊢
 exact ⟨hc.1, hc.2.1, by omega⟩
theorem Der.some {l : List Cr} {f : Fc} (d : Der l f) : ∃ c ∈ l, cOk c = true := by
 cases d with
 | mem c hc ok hk => exact ⟨c, hc, ok⟩
 | frm c hc ok hk w _ => exact ⟨c, hc, ok⟩
 | lnk c hc ok hk x w _ _ => exact ⟨c, hc, ok⟩
 | bth c hc ok hk w _ _ => exact ⟨c, hc, ok⟩
theorem least_ (f : Cr → Int) : ∀ l : List Cr, l ≠ [] → ∃ c ∈ l, ∀ d ∈ l, f c ≤ f d := by
 intro l
 induction l with
 | nil => intro h; exact absurd rfl h
 | cons x xs ih =>
  intro _
  by_cases h : xs = []
  ·subst h
   exact ⟨x, by simp, fun d hd => by rw [List.mem_singleton.1 hd]; exact Int.le_refl _⟩
  ·obtain ⟨c, hc, h2⟩ := ih h
   by_cases h3 : f x ≤ f c
   ·exact ⟨x, by simp, fun d hd => by
     rcases List.mem_cons.1 hd with rfl | hd
     ·exact Int.le_refl _
     ·exact Int.le_trans h3 (h2 d hd)⟩
   ·exact ⟨c, by simp [hc], fun d hd => by
     rcases List.mem_cons.1 hd with rfl | hd
     ·omega
     ·exact h2 d hd⟩
theorem holds_at {l : List Cr} {r : Rl} {w d : Int} (h : holdsC l r w d = true) : ∃ c ∈ l, cOk c = true ∧ d ≤ c.f5 ∧ holdsC l r w c.f5 = true := by
 have h0 := h
 unfold holdsC at h
 rw [memF_iff] at h
 obtain ⟨c0, hc0, _⟩ := h.some
 obtain ⟨c, hc, hl⟩ := least_ (fun c : Cr => c.f5) (aliveC d l) (fun e => by rw [e] at hc0; simp at hc0)
 obtain ⟨q1, q2, q3⟩ := mem_alive.1 hc
 refine ⟨c, q1, q2, q3, ?_⟩
 unfold holdsC
 rw [memF_iff]
 refine h.more (fun x hx ok => ?_)
 have hx2 := hl x hx
 rw [mem_alive] at hx ⊢
 exact ⟨hx.1, ok, hx2⟩
def IsLast (l : List Cr) (r : Rl) (w L : Int) : Prop := 0 ≤ L ∧ (L = 0 ∨ holdsC l r w L = true) ∧ ∀ d, L < d → holdsC l r w d = false
theorem IsLast.one {l : List Cr} {r : Rl} {w L L' : Int} (h : IsLast l r w L) (h' : IsLast l r w L') : L = L' := by
 obtain ⟨h1, h2, h3⟩ := h
 obtain ⟨h4, h5, h6⟩ := h'
 rcases Int.lt_trichotomy L L' with q | q | q
 ·rcases h5 with h5 | h5
  ·omega
  ·rw [h3 L' q] at h5; cases h5
 ·exact q
 ·rcases h2 with h2 | h2
  ·omega
  ·rw [h6 L q] at h2; cases h2
theorem holds_9999 {l : List Cr} {r : Rl} {w d : Int} (hd : 9999 < d) : holdsC l r w d = false := by
 cases h : holdsC l r w d
 ·rfl
 ·obtain ⟨c, _, ok, h2, _⟩ := holds_at h
  have := (cOk_of ok).2.2
  unfold inB at this
  rw [decide_eq_true_eq] at this
  omega
theorem spec_Last0 (l : List Cr) (h : l.length ≤ 1048576) (a b w : Int) : ∀ (n : Nat) (lo hi : Int), hi - lo ≤ n → 0 ≤ lo → lo ≤ hi → hi ≤ 9999 → (lo = 0 ∨ holdsC l ⟨a, b⟩ w lo = true) → (∀ d, hi < d → holdsC l ⟨a, b⟩ w d = false) →
  ∃ L, IsLast l ⟨a, b⟩ w L ∧ Ev (fun k => spec_LastDay.l0 k l w lo hi a b) L := by
 intro n
 induction n with
 | zero =>
  intro lo hi h1 h2 h3 h4 h5 h6
  have e : lo = hi := by omega
  refine ⟨lo, ⟨h2, h5, fun d hd => h6 d (by omega)⟩, Ev.succ ?_⟩
  simp only [spec_LastDay.l0, show ¬ lo < hi by omega, ↓reduceIte]
  exact Ev.now _
 | succ n ih =>
  intro lo hi h1 h2 h3 h4 h5 h6
  by_cases hlt : lo < hi
  ·have e1 : wrap64 (lo + hi) = lo + hi := w64 (by omega) (by omega)
   have e2 : wrap64 (lo + hi + 1) = lo + hi + 1 := w64 (by omega) (by omega)
   have e3 : Int.tdiv (lo + hi + 1) 2 = (lo + hi + 1) / 2 := Int.tdiv_eq_ediv_of_nonneg (by omega)
   have e4 : wrap64 ((lo + hi + 1) / 2) = (lo + hi + 1) / 2 := w64 (by omega) (by omega)
   have e5 : wrap64 ((lo + hi + 1) / 2 - 1) = (lo + hi + 1) / 2 - 1 := w64 (by omega) (by omega)
   cases hm : holdsC l ⟨a, b⟩ w ((lo + hi + 1) / 2)
   ·obtain ⟨L, hL, hE⟩ := ih lo ((lo + hi + 1) / 2 - 1) (by omega) h2 (by omega) (by omega) h5 (fun d hd => by
     cases hq : holdsC l ⟨a, b⟩ w d
     ·rfl
     ·have := holds_mono hq (d' := (lo + hi + 1) / 2) (by omega)
      rw [hm] at this
      cases this)
    refine ⟨L, hL, Ev.succ ?_⟩
    simp only [spec_LastDay.l0, hlt, ↓reduceIte, e1, e2, e3, e4, e5]
    refine Ev.bind (spec_Holds l h a b w _) ?_
    rw [hm]
    simp only [Bool.false_eq_true, ↓reduceIte]
    exact hE
   ·obtain ⟨L, hL, hE⟩ := ih ((lo + hi + 1) / 2) hi (by omega) (by omega) (by omega) h4 (.inr hm) h6
    refine ⟨L, hL, Ev.succ ?_⟩
    simp only [spec_LastDay.l0, hlt, ↓reduceIte, e1, e2, e3, e4, e5]
    refine Ev.bind (spec_Holds l h a b w _) ?_
    rw [hm]
    simp only [↓reduceIte]
    exact hE
  ·exact ih lo hi (by omega) h2 h3 h4 h5 h6
def lastS (l : List Cr) (r : Rl) (w : Int) (out : Int) (c : Cr) : Int := if (cOk c && decide (c.f5 > out) && holdsC l r w c.f5) = true then c.f5 else out
theorem lastS_le (l : List Cr) (r : Rl) (w out : Int) (c : Cr) : out ≤ lastS l r w out c := by
 unfold lastS
 split
 ·rename_i h
  simp only [Bool.and_eq_true, decide_eq_true_eq] at h
  omega
 ·omega
theorem lastF_le (l : List Cr) (r : Rl) (w : Int) : ∀ (cs : List Cr) (out : Int), out ≤ cs.foldl (lastS l r w) out := by
 intro cs
 induction cs with
 | nil => intro out; exact Int.le_refl _
 | cons c cs ih => exact fun out => Int.le_trans (lastS_le l r w out c) (ih _)
theorem lastF_is (l : List Cr) (r : Rl) (w : Int) : ∀ (cs : List Cr) (out : Int), (out = 0 ∨ holdsC l r w out = true) → 0 ≤ out →
  (cs.foldl (lastS l r w) out = 0 ∨ holdsC l r w (cs.foldl (lastS l r w) out) = true) ∧ ∀ c ∈ cs, cOk c = true → holdsC l r w c.f5 = true → c.f5 ≤ cs.foldl (lastS l r w) out := by
 intro cs
 induction cs with
 | nil => exact fun out h _ => ⟨h, fun c hc => by simp at hc⟩
 | cons c cs ih =>
  intro out h h0
  have h1 : lastS l r w out c = 0 ∨ holdsC l r w (lastS l r w out c) = true := by
   unfold lastS
   split
   ·rename_i hh
    simp only [Bool.and_eq_true] at hh
    exact .inr hh.2
   ·exact h
  have h2 := lastS_le l r w out c
  obtain ⟨q1, q2⟩ := ih (lastS l r w out c) h1 (by omega)
  refine ⟨q1, fun d hd ok hh => ?_⟩
  rcases List.mem_cons.1 hd with rfl | hd
  ·refine Int.le_trans ?_ (lastF_le l r w cs _)
   unfold lastS
   by_cases hg : d.f5 > out
   ·simp [ok, hh, hg]
   ·split <;> omega
  ·exact q2 d hd ok hh
theorem impl_Last (l : List Cr) (h : l.length ≤ 1048576) (a b w : Int) : ∃ L, IsLast l ⟨a, b⟩ w L ∧ Ev (fun k => impl_LastDay.f k l a b w) L := by
 refine ⟨l.foldl (lastS l ⟨a, b⟩ w) 0, ?_, ?_⟩
 ·obtain ⟨q1, q2⟩ := lastF_is l ⟨a, b⟩ w l 0 (.inl rfl) (Int.le_refl _)
  refine ⟨lastF_le l ⟨a, b⟩ w l 0, q1, fun d hd => ?_⟩
  cases hq : holdsC l ⟨a, b⟩ w d
  ·rfl
  ·obtain ⟨c, hc, ok, h2, h3⟩ := holds_at hq
   have := q2 c hc ok h3
   omega
 ·unfold impl_LastDay.f
  have key := Ev.up l.length (fun i (s : Int) k => impl_LastDay.l0 k l w s l l.length i a b) (fun i s => (l.drop i).foldl (lastS l ⟨a, b⟩ w) s) (fun i s => True) ?_ ?_ 0 0 (Nat.zero_le _) trivial
  ·exact key
  ·intro i s hi _ ih
   refine Ev.succ ?_
   simp only [impl_LastDay.l0, nat_lt, nat_0, hi, ↓reduceIte, rd_T48, getD_ _ hi, getDn_ _ hi, up_ (show i < 4611686018427387904 by omega)]
   refine Ev.bind (impl_CredOk _ _ _ _ _ _ _ _ _ _) ?_
   change Ev (fun k => if cOk l[i] = true then _ else _) _
   rw [List.drop_eq_getElem_cons hi, List.foldl_cons]
   have e : lastS l ⟨a, b⟩ w s l[i] = if (cOk l[i] && decide (l[i].f5 > s) && holdsC l ⟨a, b⟩ w l[i].f5) = true then l[i].f5 else s := rfl
   rw [e]
   cases hc : cOk l[i]
   ·simp only [Bool.false_eq_true, ↓reduceIte, Bool.false_and]
    exact ih s trivial
   ·simp only [↓reduceIte, Bool.true_and]
    by_cases hg : l[i].f5 > s
    ·simp only [hg, ↓reduceIte, decide_true, Bool.true_and]
     refine Ev.bind (impl_Holds l h a b w _) ?_
     cases hh : holdsC l ⟨a, b⟩ w l[i].f5
     ·simp only [Bool.false_eq_true, ↓reduceIte]
      exact ih s trivial
     ·simp only [↓reduceIte]
      exact ih _ trivial
    ·simp only [hg, ↓reduceIte, decide_false, Bool.false_and, Bool.false_eq_true]
     exact ih s trivial
  ·intro s _
   refine Ev.succ ?_
   simp only [impl_LastDay.l0, nat_lt, Nat.lt_irrefl, ↓reduceIte, List.drop_length, List.foldl_nil]
   exact Ev.now s
theorem both_Last (l : List Cr) (h : l.length ≤ 1048576) (a b w : Int) : ∃ L, Ev (fun k => spec_LastDay.f k l a b w) L ∧ Ev (fun k => impl_LastDay.f k l a b w) L := by
 obtain ⟨L, hL, hE⟩ := impl_Last l h a b w
 obtain ⟨L', hL', hE'⟩ := spec_Last0 l h a b w 9999 0 9999 (by omega) (by omega) (by omega) (by omega) (.inl rfl) (fun d hd => holds_9999 hd)
 obtain rfl := hL.one hL'
 exact ⟨L, by unfold spec_LastDay.f; exact hE', hE⟩
end Q
end Go.Proofs.Yteehgihclnlaoaa
