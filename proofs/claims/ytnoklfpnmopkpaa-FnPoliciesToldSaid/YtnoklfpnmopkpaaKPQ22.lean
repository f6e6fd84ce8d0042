/-
Policies: more words tell no less; not twice; a policy comes back from its text; Rising of what has no not.
-/
import Derived.Test.YtnoklfpnmopkpaaKPQ39
namespace Go.Proofs.Ytnoklfpnmopkpaa
open Go.RowKit Go.Proofs.YtnoklfpnmopkpaaW.PrintWords Go.Proofs.YtnoklfpnmopkpaaW.PrintLast Go.Proofs.YtnoklfpnmopkpaaW.PrintMore Go.Proofs.Ytnoklfpnmopkpaa.PE
set_option linter.unusedVariables false
set_option linter.unusedSimpArgs false
namespace Q
theorem same_Roles (l : List Rl) (h : l.length ≤ 1048576) : Ev (fun k => laws_sameRoles.f k l l) true := by
 unfold laws_sameRoles.f
 simp only [↓reduceIte]
 refine Ev.up0 l.length (fun i k => laws_sameRoles.l0 k l l i) (fun _ => true) ?_ ?_ 0 (Nat.zero_le _)
 ·intro i hi hn
  refine Ev.succ ?_
  simp only [laws_sameRoles.l0, nat_lt, nat_0, hi, ↓reduceIte, up_ (show i < 4611686018427387904 by omega), BEq.rfl, Bool.not_true, Bool.or_self, Bool.false_eq_true]
  exact hn
 ·refine Ev.succ ?_
  simp only [laws_sameRoles.l0, nat_lt, Nat.lt_irrefl, ↓reduceIte]
  exact Ev.now _
end Q
end Go.Proofs.Ytnoklfpnmopkpaa

namespace Go.Proofs.Ytnoklfpnmopkpaa
open Go.RowKit Go.Proofs.YtnoklfpnmopkpaaW.PrintWords Go.Proofs.YtnoklfpnmopkpaaW.PrintLast Go.Proofs.YtnoklfpnmopkpaaW.PrintMore Go.Proofs.Ytnoklfpnmopkpaa.PE
set_option linter.unusedVariables false
set_option linter.unusedSimpArgs false
namespace Q
def LeB (a b : List Bool) : Prop := a.length = b.length ∧ ∀ i : Int, rdOf false a i = true → rdOf false b i = true
theorem LeB.snoc {a b : List Bool} {x y : Bool} (h : LeB a b) (hxy : x = true → y = true) : LeB (a ++ [x]) (b ++ [y]) := by
 obtain ⟨h1, h2⟩ := h
 refine ⟨by simp [h1], fun i hi => ?_⟩
 have h3 := h2 i
 unfold rdOf at h3 hi ⊢
 rw [List.getD_eq_getElem?_getD, List.getElem?_append] at hi ⊢
 rw [List.getD_eq_getElem?_getD, List.getD_eq_getElem?_getD] at h3
 by_cases hl : i.toNat < a.length
 ·rw [if_pos hl] at hi
  rw [if_pos (by omega)]
  exact h3 hi
 ·rw [if_neg hl] at hi
  rw [if_neg (by omega), ← h1]
  by_cases he : i.toNat - a.length = 0
  ·rw [he] at hi ⊢
   simp at hi ⊢
   exact hxy hi
  ·obtain ⟨m, hm⟩ : ∃ m, i.toNat - a.length = m + 1 := ⟨i.toNat - a.length - 1, by omega⟩
   rw [hm] at hi
   simp at hi
theorem same_ (q : List Node) (h : q.length ≤ 1048576) : Ev (fun k => laws_samePolicy.f k q q) true := by
 unfold laws_samePolicy.f
 simp only [↓reduceIte]
 refine Ev.up0 q.length (fun i k => laws_samePolicy.l0 k i q q) (fun _ => true) ?_ ?_ 0 (Nat.zero_le _)
 ·intro i hi hn
  refine Ev.succ ?_
  simp only [laws_samePolicy.l0, nat_lt, nat_0, hi, ↓reduceIte, beq_self_eq_true, Bool.not_true, Bool.or_self, Bool.false_eq_true, up_ (show i < 4611686018427387904 by omega)]
  exact hn
 ·refine Ev.succ ?_
  simp only [laws_samePolicy.l0, nat_lt, Nat.lt_irrefl, ↓reduceIte]
  exact Ev.now _
def u8 (x : Int) : UInt8 := UInt8.ofNat x.toNat
theorem vtB_1 {x : Int} (h0 : 0 ≤ x) (h1 : x < 128) : (vtB x).data.toList = [u8 x] := by
 have e := vtB_toList x
 rw [toList_eq] at e
 rw [e, vt_small (by omega)]
 show [UInt8.ofNat (((x.toNat : Nat) : Int)).toNat] = [UInt8.ofNat x.toNat]
 rw [Int.toNat_natCast]
def Sm (x : Node) : Prop := (0 ≤ x.f0 ∧ x.f0 < 128) ∧ (0 ≤ x.f1.f0 ∧ x.f1.f0 < 128) ∧ (0 ≤ x.f1.f1 ∧ x.f1.f1 < 128) ∧ (0 ≤ x.f2 ∧ x.f2 < 128) ∧ (0 ≤ x.f3 ∧ x.f3 < 128)
def enc5 (x : Node) : List UInt8 := [u8 x.f0, u8 x.f1.f0, u8 x.f1.f1, u8 x.f2, u8 x.f3]
theorem nodeText_5 {x : Node} (h : Sm x) : (nodeText x).data.toList = enc5 x := by
 obtain ⟨⟨a0, a1⟩, ⟨b0, b1⟩, ⟨c0, c1⟩, ⟨d0, d1⟩, ⟨e0, e1⟩⟩ := h
 unfold nodeText enc5
 simp [ByteArray.data_append, vtB_1 a0 a1, vtB_1 b0 b1, vtB_1 c0 c1, vtB_1 d0 d1, vtB_1 e0 e1]
end Q
end Go.Proofs.Ytnoklfpnmopkpaa
