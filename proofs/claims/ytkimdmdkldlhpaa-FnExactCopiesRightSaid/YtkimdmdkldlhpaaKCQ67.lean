/-
A life: its size, its copy, and the comparison with itself.
-/
import Derived.Test.YtkimdmdkldlhpaaKCPAx15
import Derived.Test.YtkimdmdkldlhpaaKCQ65
namespace Go.Proofs.Ytkimdmdkldlhpaa
open Go.RowKit Go.Proofs.YtkimdmdkldlhpaaW.PrintWords Go.Proofs.YtkimdmdkldlhpaaW.PrintLast Go.Proofs.YtkimdmdkldlhpaaW.PrintMore Go.Proofs.Ytkimdmdkldlhpaa.PA
set_option linter.unusedVariables false
set_option linter.unusedSimpArgs false
namespace Q
abbrev LItem := S118
abbrev LShelf := S89
abbrev LPeer := S57
abbrev Itm := S52
abbrev Shf := S61
abbrev Per := S42
theorem rdLItem (l : List LItem) (i : Nat) (h : i < l.length) : rd_T118 l (i : Int) = l[i] := by unfold rd_T118; simp [h]
theorem rdLShelf (l : List LShelf) (i : Nat) (h : i < l.length) : rd_T89 l (i : Int) = l[i] := by unfold rd_T89; simp [h]
theorem rdLPeer (l : List LPeer) (i : Nat) (h : i < l.length) : rd_T57 l (i : Int) = l[i] := by unfold rd_T57; simp [h]
theorem rdItm (l : List Itm) (i : Nat) (h : i < l.length) : rd_T52 l (i : Int) = l[i] := by unfold rd_T52; simp [h]
theorem rdShf (l : List Shf) (i : Nat) (h : i < l.length) : rd_T61 l (i : Int) = l[i] := by unfold rd_T61; simp [h]
theorem rdPer (l : List Per) (i : Nat) (h : i < l.length) : rd_T42 l (i : Int) = l[i] := by unfold rd_T42; simp [h]
def mItem (x : LItem) : Nat := x.f0.size
def mItems (l : List LItem) : Nat := l.length + (l.map mItem).sum
def mShelf (x : LShelf) : Nat := mItems x.f1
def mShelves (l : List LShelf) : Nat := l.length + (l.map mShelf).sum
def mPeer (x : LPeer) : Nat := x.f3.length + (x.f4.length + mShelves x.f5)
def mPeers (l : List LPeer) : Nat := l.length + (l.map mPeer).sum
theorem zInts (l : List Int) (h : l.length ≤ 9223372036854775807) : Sz (fun _ a => laws_szIntS.f l a) l.length := Sz.leaf h
theorem zItem (x : LItem) (h : G118 x) : Sz (fun _ a => laws_szItem.f x.f0 x.f1 a) (mItem x) := Sz.leaf h.1
theorem zItems (l : List LItem) (h : All G118 l) : Sz (fun k a => laws_szItemS.f k l a) (mItems l) :=
 szRow l.length (fun k a i => laws_szItemS.l0 k l a i) h.1 (fun k a => rfl) (fun hn => szLoop l _ (rd_T118 l) (fun x _ a => laws_szItem.f x.f0 x.f1 a) mItem (fun k a i => by simp only [laws_szItemS.l0]) (rdLItem l) hn (fun x hx => zItem x (h.2 x hx)))
theorem zShelf (x : LShelf) (h : G89 x) : Sz (fun k a => laws_szShelf.f k x.f0 x.f1 a) (mShelf x) := Sz.tail (zItems x.f1 h.2)
theorem zShelves (l : List LShelf) (h : All G89 l) : Sz (fun k a => laws_szShelfS.f k l a) (mShelves l) :=
 szRow l.length (fun k a i => laws_szShelfS.l0 k l a i) h.1 (fun k a => rfl) (fun hn => szLoop l _ (rd_T89 l) (fun x k a => laws_szShelf.f k x.f0 x.f1 a) mShelf (fun k a i => by simp only [laws_szShelfS.l0]) (rdLShelf l) hn (fun x hx => zShelf x (h.2 x hx)))
theorem zPeer (x : LPeer) (h : G57 x) : Sz (fun k a => laws_szPeer.f k x.f0 x.f1 x.f2 x.f3 x.f4 x.f5 a) (mPeer x) :=
 Sz.seq (zInts x.f3 h.2.2.2.1.1) (Sz.seq (zInts x.f4 h.2.2.2.2.1.1) (Sz.tail (zShelves x.f5 h.2.2.2.2.2)))
theorem zPeers (l : List LPeer) (h : All G57 l) : Sz (fun k a => laws_szPeerS.f k l a) (mPeers l) :=
 szRow l.length (fun k a i => laws_szPeerS.l0 k l a i) h.1 (fun k a => rfl) (fun hn => szLoop l _ (rd_T57 l) (fun x k a => laws_szPeer.f k x.f0 x.f1 x.f2 x.f3 x.f4 x.f5 a) mPeer (fun k a i => by simp only [laws_szPeerS.l0]) (rdLPeer l) hn (fun x hx => zPeer x (h.2 x hx)))
theorem zRing (l : List LPeer) (h : All G57 l) : Sz (fun k a => laws_szRing.f k l a) (mPeers l) := Sz.tail (zPeers l h)
def OkShelf (x : LShelf) : Prop := x.f1.length ≤ 1048576
def OkPeer (x : LPeer) : Prop := x.f3.length ≤ 1048576 ∧ x.f4.length ≤ 1048576 ∧ x.f5.length ≤ 1048576 ∧ ∀ y ∈ x.f5, OkShelf y
def OkPeers (l : List LPeer) : Prop := l.length ≤ 1048576 ∧ ∀ x ∈ l, OkPeer x
theorem okShelf {x : LShelf} (h : mShelf x ≤ 1048576) : OkShelf x := by unfold mShelf mItems at h; unfold OkShelf; omega
theorem okPeer {x : LPeer} (h : mPeer x ≤ 1048576) : OkPeer x := by
 unfold mPeer mShelves at h
 refine ⟨by omega, by omega, by omega, fun y hy => okShelf ?_⟩
 have := le_sum mShelf hy
 omega
theorem okPeers {l : List LPeer} (h : mPeers l ≤ 1048576) : OkPeers l := by
 unfold mPeers at h
 refine ⟨by omega, fun y hy => okPeer ?_⟩
 have := le_sum mPeer hy
 omega
def toI (x : LItem) : Itm := ⟨x.f0, x.f1⟩
def toSh (x : LShelf) : Shf := ⟨x.f0, x.f1.map toI⟩
def toP (x : LPeer) : Per := ⟨x.f0, x.f1, x.f2, x.f3, x.f4, x.f5.map toSh⟩
theorem cInts (l : List Int) (h : l.length ≤ 1048576) : Ev (fun k => laws_toIntS.f k l) l := by
 have e : l.map (fun x => x) = l := List.map_id' l
 have := toRow (F := fun k => laws_toIntS.f k l) l 0 35184372088832 (fun k acc i => laws_toIntS.l0 k l acc i) (fun x => x) (by omega) (fun k => rfl)
  (toLoop l 0 _ (rd l) (fun x _ => some x) (fun b => b) (fun x => x) (fun k acc i => by simp only [laws_toIntS.l0]; rfl) (fun i hi => by simp [rd, hi]) h (fun x _ => ⟨x, Ev.now _, rfl⟩))
 rwa [e] at this
theorem cItems (l : List LItem) (h : l.length ≤ 1048576) : Ev (fun k => laws_toItemS.f k l) (l.map toI) :=
 toRow l z52 11728124029610 (fun k acc i => laws_toItemS.l0 k l acc i) toI (by omega) (fun k => rfl)
  (toLoop l z52 _ (rd_T118 l) (fun x _ => laws_toItem.f x.f0 x.f1) (fun b => ⟨b.1, b.2⟩) toI (fun k acc i => by simp only [laws_toItemS.l0]) (rdLItem l) h (fun x _ => ⟨_, Ev.now _, rfl⟩))
theorem cShelves (l : List LShelf) (h : l.length ≤ 1048576) (hs : ∀ x ∈ l, OkShelf x) : Ev (fun k => laws_toShelfS.f k l) (l.map toSh) :=
 toRow l z61 8796093022208 (fun k acc i => laws_toShelfS.l0 k l acc i) toSh (by omega) (fun k => rfl)
  (toLoop l z61 _ (rd_T89 l) (fun x k => laws_toShelf.f k x.f0 x.f1) (fun b => ⟨b.1, b.2⟩) toSh (fun k acc i => by simp only [laws_toShelfS.l0]) (rdLShelf l) h
   (fun x hx => ⟨(x.f0, x.f1.map toI), Ev.bind (cItems x.f1 (hs x hx)) (Ev.now _), rfl⟩))
theorem cPeers (l : List LPeer) (h : OkPeers l) : Ev (fun k => laws_toPeerS.f k l) (l.map toP) :=
 toRow l z42 2932031007402 (fun k acc i => laws_toPeerS.l0 k l acc i) toP (by have := h.1; omega) (fun k => rfl)
  (toLoop l z42 _ (rd_T57 l) (fun x k => laws_toPeer.f k x.f0 x.f1 x.f2 x.f3 x.f4 x.f5) (fun b => ⟨b.1, b.2.1, b.2.2.1, b.2.2.2.1, b.2.2.2.2.1, b.2.2.2.2.2⟩) toP (fun k acc i => by simp only [laws_toPeerS.l0]) (rdLPeer l) h.1
   (fun x hx => ⟨(x.f0, x.f1, x.f2, x.f3, x.f4, x.f5.map toSh), Ev.bind (cInts x.f3 (h.2 x hx).1) (Ev.bind (cInts x.f4 (h.2 x hx).2.1) (Ev.bind (cShelves x.f5 (h.2 x hx).2.2.1 (h.2 x hx).2.2.2) (Ev.now _))), rfl⟩))
theorem cRing (l : List LPeer) (h : OkPeers l) : Ev (fun k => laws_toRing.f k l) (l.map toP) := Ev.bind (cPeers l h) (Ev.now _)
theorem qItem (x : Itm) : laws_eqItem.f x.f0 x.f1 x.f0 x.f1 = some true := by unfold laws_eqItem.f; simp
theorem qInts (l : List Int) (h : l.length ≤ 1048576) : Ev (fun k => laws_eqIntS.f k l l) true := by
 unfold laws_eqIntS.f
 simp only [↓reduceIte]
 refine Ev.up0 l.length (fun i k => laws_eqIntS.l0 k l l i) (fun _ => true) ?_ ?_ 0 (Nat.zero_le _)
 ·intro i hi hn
  refine Ev.succ ?_
  simp only [laws_eqIntS.l0, nat_lt, nat_0, hi, ↓reduceIte, up_ (show i < 4611686018427387904 by omega)]
  exact hn
 ·refine Ev.succ ?_
  simp only [laws_eqIntS.l0, nat_lt, Nat.lt_irrefl, ↓reduceIte]
  exact Ev.now _
theorem qItems (l : List Itm) (h : l.length ≤ 1048576) : Ev (fun k => laws_eqItemS.f k l l) true := by
 unfold laws_eqItemS.f
 simp only [↓reduceIte]
 exact eqLoop l (fun k i => laws_eqItemS.l0 k l l i) (rd_T52 l) (fun x _ => laws_eqItem.f x.f0 x.f1 x.f0 x.f1) (fun k i => by simp only [laws_eqItemS.l0]) (rdItm l) h (fun x _ => by rw [qItem]; exact Ev.now _)
theorem qShelf (x : Shf) (h : x.f1.length ≤ 1048576) : Ev (fun k => laws_eqShelf.f k x.f0 x.f1 x.f0 x.f1) true := by
 unfold laws_eqShelf.f
 simp only [↓reduceIte]
 exact Ev.tt (qItems _ h) (Ev.now _)
theorem qShelves (l : List Shf) (h : l.length ≤ 1048576) (hs : ∀ x ∈ l, x.f1.length ≤ 1048576) : Ev (fun k => laws_eqShelfS.f k l l) true := by
 unfold laws_eqShelfS.f
 simp only [↓reduceIte]
 exact eqLoop l (fun k i => laws_eqShelfS.l0 k l l i) (rd_T61 l) (fun x k => laws_eqShelf.f k x.f0 x.f1 x.f0 x.f1) (fun k i => by simp only [laws_eqShelfS.l0]) (rdShf l) h (fun x hx => qShelf x (hs x hx))
def OkPer (x : Per) : Prop := x.f3.length ≤ 1048576 ∧ x.f4.length ≤ 1048576 ∧ x.f5.length ≤ 1048576 ∧ ∀ y ∈ x.f5, y.f1.length ≤ 1048576
def OkRing (l : List Per) : Prop := l.length ≤ 1048576 ∧ ∀ x ∈ l, OkPer x
theorem okToP {l : List LPeer} (h : OkPeers l) : OkRing (l.map toP) := by
 refine ⟨by rw [List.length_map]; exact h.1, fun x hx => ?_⟩
 obtain ⟨y, hy, rfl⟩ := List.mem_map.1 hx
 obtain ⟨h1, h2, h3, h4⟩ := h.2 y hy
 refine ⟨h1, h2, by simpa [toP] using h3, fun z hz => ?_⟩
 obtain ⟨v, hv, rfl⟩ := List.mem_map.1 (show z ∈ y.f5.map toSh from hz)
 have := h4 v hv
 unfold OkShelf at this
 simpa [toSh] using this
theorem qPeer (x : Per) (h : OkPer x) : Ev (fun k => laws_eqPeer.f k x.f0 x.f1 x.f2 x.f3 x.f4 x.f5 x.f0 x.f1 x.f2 x.f3 x.f4 x.f5) true := by
 unfold laws_eqPeer.f
 simp only [↓reduceIte, bne_self_eq_false, Bool.false_eq_true]
 exact Ev.tt (qInts _ h.1) (Ev.tt (qInts _ h.2.1) (Ev.tt (qShelves _ h.2.2.1 h.2.2.2) (Ev.now _)))
theorem qPeers (l : List Per) (h : OkRing l) : Ev (fun k => laws_eqPeerS.f k l l) true := by
 unfold laws_eqPeerS.f
 simp only [↓reduceIte]
 exact eqLoop l (fun k i => laws_eqPeerS.l0 k l l i) (rd_T42 l) (fun x k => laws_eqPeer.f k x.f0 x.f1 x.f2 x.f3 x.f4 x.f5 x.f0 x.f1 x.f2 x.f3 x.f4 x.f5) (fun k i => by simp only [laws_eqPeerS.l0]) (rdPer l) h.1 (fun x hx => qPeer x (h.2 x hx))
theorem qRing (l : List Per) (h : OkRing l) : Ev (fun k => laws_eqRing.f k l l) true := Ev.tt (qPeers l h) (Ev.now _)
end Q
end Go.Proofs.Ytkimdmdkldlhpaa
