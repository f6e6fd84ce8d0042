/-
The members of a circle in order, and what the reference adds for them.
-/
import Derived.Test.YtcbhmcpdnokbiaaKLQ25
namespace Go.Proofs.Ytcbhmcpdnokbiaa
open Go.RowKit Go.Proofs.YtcbhmcpdnokbiaaW.PrintWords Go.Proofs.YtcbhmcpdnokbiaaW.PrintLast Go.Proofs.YtcbhmcpdnokbiaaW.PrintMore Go.Proofs.Ytcbhmcpdnokbiaa.PA
set_option linter.unusedVariables false
set_option linter.unusedSimpArgs false
namespace Q
theorem leI_sorted (l : List Int) : (l.mergeSort fun x y => decide (x ≤ y)).Pairwise (fun a b => a ≤ b) := by
 have h := List.pairwise_mergeSort (le := fun x y : Int => decide (x ≤ y)) (fun a b c h1 h2 => by simp only [decide_eq_true_eq] at *; exact Int.le_trans h1 h2) (fun a b => by simp only [Bool.or_eq_true, decide_eq_true_eq]; exact Int.le_total a b) l
 exact h.imp (fun h => by simpa using h)
theorem sort_eq {l s : List Int} (hl : l.Nodup) (hs : s.Pairwise (fun a b => a < b)) (hm : ∀ x, x ∈ s ↔ x ∈ l) : (l.mergeSort fun x y => decide (x ≤ y)) = s := by
 have hsn : s.Nodup := hs.imp (fun h => by omega)
 have hp : (l.mergeSort fun x y => decide (x ≤ y)).Perm s := (List.mergeSort_perm l _).trans ((List.perm_ext_iff_of_nodup hl hsn).2 (fun x => (hm x).symm))
 exact List.Perm.eq_of_pairwise (le := fun a b : Int => a ≤ b) (fun a b _ _ h1 h2 => by omega) (leI_sorted l) (hs.imp (fun h => by omega)) hp
def upTo : Nat → List Int
 | 0 => []
 | d + 1 => ((6 : Int) - ((d + 1 : Nat) : Int)) :: upTo d
theorem mem_upTo {x : Int} : ∀ d : Nat, x ∈ upTo d ↔ 6 - (d : Int) ≤ x ∧ x < 6 := by
 intro d
 induction d with
 | zero => simp [upTo]
 | succ d ih =>
  unfold upTo
  rw [List.mem_cons, ih]
  omega
theorem upTo_sorted : ∀ d : Nat, (upTo d).Pairwise (fun a b => a < b) := by
 intro d
 induction d with
 | zero => exact List.Pairwise.nil
 | succ d ih =>
  unfold upTo
  rw [List.pairwise_cons]
  refine ⟨fun x hx => ?_, ih⟩
  have := (mem_upTo d).1 hx
  omega
def memL (F : List Fc) (A : Rl) : List Int := (F.filter fun x => decide (x.f0 = A)).map (·.f1)
def memS (F : List Fc) (A : Rl) : List Int := (upTo 6).filter fun w => decide ((⟨A, w⟩ : Fc) ∈ F)
theorem mem_memL {F : List Fc} {A : Rl} {w : Int} : w ∈ memL F A ↔ (⟨A, w⟩ : Fc) ∈ F := by
 unfold memL
 simp only [List.mem_map, List.mem_filter, decide_eq_true_eq]
 constructor
 ·rintro ⟨x, ⟨hx, rfl⟩, rfl⟩
  exact hx
 ·exact fun h => ⟨_, ⟨h, rfl⟩, rfl⟩
theorem memL_nodup {F : List Fc} (hF : F.Nodup) (A : Rl) : (memL F A).Nodup := by
 unfold memL
 have h1 : (F.filter fun x => decide (x.f0 = A)).Nodup := hF.filter _
 refine List.pairwise_map.2 (h1.imp_of_mem ?_)
 intro a b ha hb hne e
 rw [List.mem_filter, decide_eq_true_eq] at ha hb
 obtain ⟨p, q⟩ := a
 obtain ⟨p', q'⟩ := b
 simp only at ha hb e
 exact hne (by rw [ha.2, hb.2, e])
theorem memL_sort {F : List Fc} (hF : F.Nodup) (hR : Right F) (A : Rl) : ((memL F A).mergeSort fun x y => decide (x ≤ y)) = memS F A := by
 refine sort_eq (memL_nodup hF A) ((upTo_sorted 6).filter _) (fun x => ?_)
 unfold memS
 rw [mem_memL, List.mem_filter, mem_upTo, decide_eq_true_eq]
 constructor
 ·exact fun h => h.2
 ·intro h
  have := hR _ h
  unfold fOk inB at this
  simp only [Bool.and_eq_true, decide_eq_true_eq] at this
  exact ⟨by omega, h⟩
theorem memS_len (F : List Fc) (A : Rl) : (memS F A).length ≤ 6 := Nat.le_trans (List.length_filter_le _ _) (by decide)
theorem whoR_fold (F : List Fc) (A : Rl) (nm : Int) : ∀ (d : Nat) (acc : List Rl), whoR F A nm d acc = (((upTo d).filter fun w => decide ((⟨A, w⟩ : Fc) ∈ F)).map fun w => (⟨w, nm⟩ : Rl)).foldl addR acc := by
 intro d
 induction d with
 | zero => exact fun _ => rfl
 | succ d ih =>
  intro acc
  unfold whoR upTo
  rw [ih, List.filter_cons]
  by_cases h : (⟨A, (6 : Int) - ((d + 1 : Nat) : Int)⟩ : Fc) ∈ F
  ·simp only [h, decide_true, ↓reduceIte, List.map_cons, List.foldl_cons]
  ·simp only [h, decide_false, Bool.false_eq_true, ↓reduceIte]
def leadsL (F : List Fc) (c : Cr) : List Rl :=
 if c.f0 = 2 then [c.f3] else if c.f0 = 3 then c.f3 :: (memS F c.f3).map (fun w => (⟨w, c.f4.f1⟩ : Rl)) else if c.f0 = 4 then [c.f3, c.f4] else []
theorem leanC_fold (F : List Fc) (r : Rl) (acc : List Rl) (c : Cr) : leanC F r acc c = if cOk c = true ∧ c.f1 = r then (leadsL F c).foldl addR acc else acc := by
 unfold leanC
 by_cases hr : c.f1 = r
 ·by_cases ok : cOk c = true
  ·rw [if_pos (show cOk c = true ∧ c.f1 = r from ⟨ok, hr⟩)]
   unfold leadsL
   rcases cOk_kind ok with h | h | h | h
   ·simp [h]
   ·simp [h, hr, ok]
   ·simp [h, hr, ok, whoR_fold, memS]
   ·simp [h, hr, ok]
  ·simp [ok]
 ·simp [hr]
theorem leadsL_len (F : List Fc) (c : Cr) : (leadsL F c).length ≤ 7 := by
 unfold leadsL
 have := memS_len F c.f3
 split
 ·simp
 ·split
  ·simp; omega
  ·split <;> simp
end Q
end Go.Proofs.Ytcbhmcpdnokbiaa
