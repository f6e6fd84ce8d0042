/-
To be one of the facts of a list of words: by rules. More words, no fewer facts; what holds on a day held before.
-/
import Derived.Test.YtljhfomkakhflaaKEQ14
namespace Go.Proofs.Ytljhfomkakhflaa
open Go.RowKit Go.Proofs.YtljhfomkakhflaaW.PrintWords Go.Proofs.YtljhfomkakhflaaW.PrintLast Go.Proofs.YtljhfomkakhflaaW.PrintMore Go.Proofs.Ytljhfomkakhflaa.PA
set_option linter.unusedVariables false
set_option linter.unusedSimpArgs false
namespace Q
def aliveC (now : Int) (l : List Cr) : List Cr := l.filter fun c => cOk c && decide (c.f5 ≥ now)
def memF (l : List Cr) (r : Rl) (w : Int) : Bool := decide ((⟨r, w⟩ : Fc) ∈ factsF l)
def holdsC (l : List Cr) (r : Rl) (w now : Int) : Bool := memF (aliveC now l) r w
end Q
end Go.Proofs.Ytljhfomkakhflaa

namespace Go.Proofs.Ytljhfomkakhflaa
open Go.RowKit Go.Proofs.YtljhfomkakhflaaW.PrintWords Go.Proofs.YtljhfomkakhflaaW.PrintLast Go.Proofs.YtljhfomkakhflaaW.PrintMore Go.Proofs.Ytljhfomkakhflaa.PA
set_option linter.unusedVariables false
set_option linter.unusedSimpArgs false
namespace Q
inductive Der (list : List Cr) : Fc → Prop
 | mem (c : Cr) (h : c ∈ list) (ok : cOk c = true) (hk : c.f0 = 1) : Der list ⟨c.f1, c.f2⟩
 | frm (c : Cr) (h : c ∈ list) (ok : cOk c = true) (hk : c.f0 = 2) (w : Int) (d : Der list ⟨c.f3, w⟩) : Der list ⟨c.f1, w⟩
 | lnk (c : Cr) (h : c ∈ list) (ok : cOk c = true) (hk : c.f0 = 3) (x w : Int) (d1 : Der list ⟨c.f3, x⟩) (d2 : Der list ⟨⟨x, c.f4.f1⟩, w⟩) : Der list ⟨c.f1, w⟩
 | bth (c : Cr) (h : c ∈ list) (ok : cOk c = true) (hk : c.f0 = 4) (w : Int) (d1 : Der list ⟨c.f3, w⟩) (d2 : Der list ⟨c.f4, w⟩) : Der list ⟨c.f1, w⟩
theorem Der.more {l l' : List Cr} (h : ∀ c ∈ l, cOk c = true → c ∈ l') {f : Fc} (d : Der l f) : Der l' f := by
 induction d with
 | mem c hc ok hk => exact .mem c (h c hc ok) ok hk
 | frm c hc ok hk w _ ih => exact .frm c (h c hc ok) ok hk w ih
 | lnk c hc ok hk x w _ _ ih1 ih2 => exact .lnk c (h c hc ok) ok hk x w ih1 ih2
 | bth c hc ok hk w _ _ ih1 ih2 => exact .bth c (h c hc ok) ok hk w ih1 ih2
theorem fc_eta {x : Fc} {r : Rl} (h : x.f0 = r) : x = ⟨r, x.f1⟩ := by rw [← h]
theorem telF_der {list : List Cr} {l : List Fc} (hl : ∀ x ∈ l, Der list x) {c : Cr} (hc : c ∈ list) (ok : cOk c = true) : ∀ x ∈ telF l c, Der list x := by
 intro y hy
 unfold telF at hy
 rcases cOk_kind ok with hk | hk | hk | hk
 ·simp only [hk, ↓reduceIte, List.mem_singleton] at hy
  subst hy
  exact .mem c hc ok hk
 ·simp only [hk, show ¬ ((2 : Int) = 1) by omega, ↓reduceIte, List.mem_map, List.mem_filter, decide_eq_true_eq] at hy
  obtain ⟨x, ⟨hx, e⟩, rfl⟩ := hy
  exact .frm c hc ok hk x.f1 (fc_eta e ▸ hl x hx)
 ·simp only [hk, show ¬ ((3 : Int) = 1) by omega, show ¬ ((3 : Int) = 2) by omega, ↓reduceIte, List.mem_flatMap, List.mem_map, List.mem_filter, decide_eq_true_eq] at hy
  obtain ⟨x, ⟨hx, e⟩, z, ⟨hz, e2⟩, rfl⟩ := hy
  exact .lnk c hc ok hk x.f1 z.f1 (fc_eta e ▸ hl x hx) (fc_eta e2 ▸ hl z hz)
 ·simp only [hk, show ¬ ((4 : Int) = 1) by omega, show ¬ ((4 : Int) = 2) by omega, show ¬ ((4 : Int) = 3) by omega, ↓reduceIte, List.mem_map, List.mem_filter, decide_eq_true_eq] at hy
  obtain ⟨x, ⟨⟨hx, e⟩, h2⟩, rfl⟩ := hy
  exact .bth c hc ok hk x.f1 (fc_eta e ▸ hl x hx) (hl _ h2)
theorem passF_der {list : List Cr} : ∀ (cs : List Cr), (∀ c ∈ cs, c ∈ list) → ∀ {l : List Fc}, (∀ x ∈ l, Der list x) → ∀ x ∈ passF cs l, Der list x := by
 intro cs
 induction cs with
 | nil => exact fun _ _ h => h
 | cons c cs ih =>
  intro hs l hl
  refine ih (fun d hd => hs d (by simp [hd])) ?_
  intro x hx
  unfold stepF at hx
  split at hx
  ·rename_i ok
   rcases (mem_foldl _ _ _).1 hx with h | h
   ·exact hl x h
   ·exact telF_der hl (hs c (by simp)) ok x h
  ·exact hl x hx
theorem iterF_der {list : List Cr} : ∀ (n : Nat) {l : List Fc}, (∀ x ∈ l, Der list x) → ∀ x ∈ iterF n list l, Der list x := by
 intro n
 induction n with
 | zero => exact fun h => h
 | succ n ih =>
  intro l h
  unfold iterF
  split
  ·exact ih (passF_der list (fun _ h => h) h)
  ·exact passF_der list (fun _ h => h) h
theorem passF_pre (cs : List Cr) : ∀ l : List Fc, ∃ t, passF cs l = l ++ t := by
 induction cs with
 | nil => exact fun l => ⟨[], by simp [passF]⟩
 | cons c cs ih =>
  intro l
  obtain ⟨t, ht⟩ := stepF_pre l c
  obtain ⟨t', ht'⟩ := ih (stepF l c)
  refine ⟨t ++ t', ?_⟩
  show passF cs (stepF l c) = _
  rw [ht', ht, List.append_assoc]
theorem pre_eq {l t : List Fc} (h : (l ++ t).length ≤ l.length) : l ++ t = l := by
 have : t = [] := by
  rw [List.length_append] at h
  exact List.length_eq_zero_iff.1 (by omega)
 rw [this, List.append_nil]
theorem passF_fix {cs : List Cr} : ∀ {l : List Fc}, (passF cs l).length ≤ l.length → ∀ c ∈ cs, stepF l c = l := by
 induction cs with
 | nil => intro l _ c hc; simp at hc
 | cons c cs ih =>
  intro l h d hd
  have h' : (passF cs (stepF l c)).length ≤ l.length := h
  have h1 := stepF_len l c
  have h2 := passF_len cs (stepF l c)
  obtain ⟨t, ht⟩ := stepF_pre l c
  have e : stepF l c = l := by rw [ht]; exact pre_eq (by rw [← ht]; omega)
  rcases List.mem_cons.1 hd with rfl | hd
  ·exact e
  ·rw [e] at h'
   exact ih h' d hd
theorem iterF_fix (list : List Cr) : ∀ (n : Nat) {l : List Fc}, Right l → l.Nodup → 145 ≤ n + l.length → (passF list (iterF n list l)).length ≤ (iterF n list l).length := by
 intro n
 induction n with
 | zero =>
  intro l h1 h2 h3
  have := right_len h1 h2
  omega
 | succ n ih =>
  intro l h1 h2 h3
  unfold iterF
  split
  ·rename_i hg
   exact ih (passF_right list h1) (passF_nodup list h2) (by omega)
  ·rename_i hg
   obtain ⟨t, ht⟩ := passF_pre list l
   have e : passF list l = l := by rw [ht]; exact pre_eq (by rw [← ht]; omega)
   rw [e, e]
   omega
theorem factsF_closed (list : List Cr) {c : Cr} (hc : c ∈ list) (ok : cOk c = true) : ∀ x ∈ telF (factsF list) c, x ∈ factsF list := by
 have h := passF_fix (iterF_fix list 145 right_nil List.nodup_nil (by simp)) c hc
 intro x hx
 have e : stepF (factsF list) c = factsF list := h
 unfold stepF at e
 rw [if_pos ok] at e
 rw [← e]
 exact (mem_foldl _ _ _).2 (.inr hx)
theorem mem_factsF {list : List Cr} {f : Fc} : f ∈ factsF list ↔ Der list f := by
 constructor
 ·exact fun h => iterF_der 145 (fun x hx => by simp at hx) f h
 ·intro d
  induction d with
  | mem c hc ok hk => exact factsF_closed list hc ok _ (by unfold telF; simp [hk])
  | frm c hc ok hk w _ ih =>
   refine factsF_closed list hc ok _ ?_
   unfold telF
   simp only [hk, show ¬ ((2 : Int) = 1) by omega, ↓reduceIte, List.mem_map, List.mem_filter, decide_eq_true_eq]
   exact ⟨⟨c.f3, w⟩, ⟨ih, rfl⟩, rfl⟩
  | lnk c hc ok hk x w _ _ ih1 ih2 =>
   refine factsF_closed list hc ok _ ?_
   unfold telF
   simp only [hk, show ¬ ((3 : Int) = 1) by omega, show ¬ ((3 : Int) = 2) by omega, ↓reduceIte, List.mem_flatMap, List.mem_map, List.mem_filter, decide_eq_true_eq]
   exact ⟨⟨c.f3, x⟩, ⟨ih1, rfl⟩, ⟨⟨x, c.f4.f1⟩, w⟩, ⟨ih2, rfl⟩, rfl⟩
  | bth c hc ok hk w _ _ ih1 ih2 =>
   refine factsF_closed list hc ok _ ?_
   unfold telF
   simp only [hk, show ¬ ((4 : Int) = 1) by omega, show ¬ ((4 : Int) = 2) by omega, show ¬ ((4 : Int) = 3) by omega, ↓reduceIte, List.mem_map, List.mem_filter, decide_eq_true_eq]
   exact ⟨⟨c.f3, w⟩, ⟨⟨ih1, rfl⟩, ih2⟩, rfl⟩
theorem Der.some {l : List Cr} {f : Fc} (d : Der l f) : ∃ c ∈ l, cOk c = true := by
 cases d with
 | mem c hc ok hk => exact ⟨c, hc, ok⟩
 | frm c hc ok hk w _ => exact ⟨c, hc, ok⟩
 | lnk c hc ok hk x w _ _ => exact ⟨c, hc, ok⟩
 | bth c hc ok hk w _ _ => exact ⟨c, hc, ok⟩
def IsLast (l : List Cr) (r : Rl) (w L : Int) : Prop := 0 ≤ L ∧ (L = 0 ∨ holdsC l r w L = true) ∧ ∀ d, L < d → holdsC l r w d = false
theorem IsLast.one {l : List Cr} {r : Rl} {w L L' : Int} (h : IsLast l r w L) (h' : IsLast l r w L') : L = L' := by
 obtain ⟨h1, h2, h3⟩ := h
 obtain ⟨h4, h5, h6⟩ := h'
 rcases Int.lt_trichotomy L L' with q | q | q
 ·rcases h5 with h5 | h5
  ·omega
  ·rw [h3 L' q] at h5; cases h5
 ·exact q
 ·rcases h2 with h2 | h2
  ·omega
  ·rw [h6 L q] at h2; cases h2
end Q
end Go.Proofs.Ytljhfomkakhflaa
