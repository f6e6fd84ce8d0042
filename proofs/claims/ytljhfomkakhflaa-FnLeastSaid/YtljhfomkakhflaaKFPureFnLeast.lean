/-
The least proof of a drawn fact is a proof, of just its least size as a tree; the reference's proof is no less; with one word more the least size is no greater.
-/
import Derived.Test.YtljhfomkakhflaaKFQ34
namespace Go.Proofs.Ytljhfomkakhflaa
open Go.RowKit Go.Proofs.YtljhfomkakhflaaW.PrintWords Go.Proofs.YtljhfomkakhflaaW.PrintLast Go.Proofs.YtljhfomkakhflaaW.PrintMore Go.Proofs.Ytljhfomkakhflaa.PA
set_option linter.unusedVariables false
set_option linter.unusedSimpArgs false
namespace Q
def atP (F : List Fc) (p : Fc) : Int := atF F p.f0 p.f1
theorem qY {F : List Fc} {p : Fc} (h : p ∈ F) : At F (atP F p) ∧ fc F (atP F p) = p := by
 rcases zf F p.f0 p.f1 with ⟨_, hn⟩ | ⟨hi, e⟩
 ·exact absurd h hn
 ·exact ⟨hi, e⟩
theorem jS {F : List Fc} (hR : qg F) (hn : F.Nodup) {c : Cr} {f : Fc} {ps : List Fc} (h : zO c f ps) (hp : ∀ p ∈ ps, p ∈ F) : Way F c f (ps.map (atP F)) := by
 obtain ⟨h0, h⟩ := h;rcases h with ⟨k, e, rfl⟩ | ⟨k, rfl⟩ | ⟨k, x, rfl⟩ | ⟨k, rfl⟩
 ·exact (Zt k).2 ⟨by rw [← h0, ← e], rfl⟩
 ·have a := qY (hp _ (List.mem_singleton.2 rfl));exact (ZB hR k).2 ⟨h0, _, a.1, a.2, rfl⟩
 ·have a := qY (hp ⟨c.f3, x⟩ (by simp));have b := qY (hp ⟨⟨x, c.f4.f1⟩, f.f1⟩ (by simp));have e1 : rd_T28 F (atP F ⟨c.f3, x⟩) = ⟨c.f3, x⟩ := a.2;have e2 : rd_T28 F (atP F ⟨⟨x, c.f4.f1⟩, f.f1⟩) = ⟨⟨x, c.f4.f1⟩, f.f1⟩ := b.2;refine (Z0 hR k).2 ⟨h0, _, _, ⟨a.1, by rw [e1]⟩, ⟨b.1, by rw [e1, e2]⟩, rfl⟩
 ·have a := qY (hp ⟨c.f3, f.f1⟩ (by simp));have b := qY (hp ⟨c.f4, f.f1⟩ (by simp));exact (Z3 hR hn k).2 ⟨h0, _, _, ⟨a.1, a.2⟩, ⟨b.1, b.2⟩, rfl⟩
theorem Q0 {list : List Cr} {F : List Fc} {r : List Int} (hf : qN list F r) {c : Cr} (hc : c ∈ list) (ok : cOk c = true) {i : Int} (hi : At F i) {fr : List Int} (hw : Way F c (fc F i) fr) : rd r i ≤ szB r fr 1 := by
 have := hf c hc ok _ hw i.toNat (by have := hi.2; have := hi.1; omega) (by show rd_T28 F ((i.toNat : Nat) : Int) = _; rw [Int.toNat_of_nonneg hi.1]);rwa [Int.toNat_of_nonneg hi.1] at this
theorem V7 (x : Int) : zt x ≤ x := by unfold zt; split <;> omega
theorem ZC {K : List St} (hb : ∀ t : Nat, t < K.length → ∀ k ∈ (rdS K t).f2, 0 ≤ k ∧ k < (t : Int)) : ∀ (d i : Nat) (D : List Int), K.length - i = d → i ≤ K.length → D.length = i →
  (∀ j : Nat, j < i → rd (zk (K.drop i) D) j = rd D j) ∧ ∀ t : Nat, i ≤ t → t < K.length → rd (zk (K.drop i) D) t = cap (1 + ((rdS K t).f2.map (rd (zk (K.drop i) D))).sum) := by
 intro d;induction d with
 | zero =>
  intro i D hd hi hD;obtain rfl : i = K.length := by omega
  rw [List.drop_length];exact ⟨fun j _ => rfl, fun t t1 t2 => by omega⟩
 | succ d ih =>
  intro i D hd hi hD;have hil : i < K.length := by omega
  obtain ⟨V, hV⟩ : ∃ V, V = zk (K.drop (i + 1)) (D ++ [cap (sOf D K[i].f2 1)]) := ⟨_, rfl⟩;have he : zk (K.drop i) D = V := by rw [List.drop_eq_getElem_cons hil, hV]; rfl
  obtain ⟨h1, h2⟩ := ih (i + 1) (D ++ [cap (sOf D K[i].f2 1)]) (by omega) (by omega) (by simp [hD]);rw [← hV] at h1 h2;rw [he];have hlo : ∀ j : Nat, j < i → rd V j = rd D j := fun j hj => by rw [h1 j (by omega), zV _ (by omega) (by omega)]
  refine ⟨hlo, fun t t1 t2 => ?_⟩;by_cases e : t = i
  ·subst e;rw [h1 t (by omega), show (t : Int) = (D.length : Int) by rw [hD], js, hD, Qx, zh hil];refine congrArg (fun z => cap (1 + List.sum z)) (List.map_congr_left fun k m => ?_);have := hb t hil k (by rw [zh hil]; exact m);obtain ⟨n, rfl⟩ := Int.eq_ofNat_of_zero_le this.1;exact (hlo n (by omega)).symm
  ·exact h2 t (by omega) t2
theorem jD {list : List Cr} {f : Fc} {K : List St} (h : zT list f K) : ∃ V : List Int, vT K (wrap64 ((K.length : Int) - 1)) = rd V ((K.length - 1 : Nat) : Int) ∧ ∀ t : Nat, t < K.length → rd V t = cap (1 + ((rdS K t).f2.map (rd V)).sum) := by
 have hl := h.len;have hp := h.pos;refine ⟨zk K [], ?_, fun t ht => ?_⟩
 ·rw [w64 (by omega) (by omega)];unfold vT;have hn : ((K.length : Int) - 1).toNat + 1 = K.length := by omega
  rw [hn, if_pos ⟨decide_eq_true ⟨by omega, by omega⟩, zD (fun t ht2 => vu h.good t ht2) _ (Nat.le_refl _)⟩, List.take_length];congr 1;omega
 ·have := (ZC (K := K) (fun t ht k m => (h.good t ht).2.2.1 k (by rw [← zh ht]; exact m)) K.length 0 [] rfl (Nat.zero_le _) rfl).2 t (Nat.zero_le _) ht;rwa [List.drop_zero] at this
theorem Z4 {list : List Cr} {K : List St} (h : qh list K) : ∀ (n t : Nat), t < n → t < K.length → Der list (rdS K t).f1 := by
 intro n;induction n with
 | zero => intro t h1; omega
 | succ n ih =>
  intro t h1 h2;obtain ⟨g1, g2, g3, g4⟩ := h t h2;rw [zh h2];refine g4.der g1 g2 fun p hp => ?_;obtain ⟨k, m, rfl⟩ := List.mem_map.1 hp;obtain ⟨u, rfl⟩ := Int.eq_ofNat_of_zero_le (g3 k m).1;exact ih u (by have := (g3 _ m).2; omega) (by have := (g3 _ m).2; omega)
theorem jE {list : List Cr} {r : List Int} (h : Szs list (qb list) r) {K : List St} (hg : qh list K) {V : List Int} (hV : ∀ t : Nat, t < K.length → rd V t = cap (1 + ((rdS K t).f2.map (rd V)).sum)) :
  ∀ (n t : Nat), t < n → t < K.length → rd r (atP (qb list) (rdS K t).f1) ≤ rd V t := by
 intro n;induction n with
 | zero => intro t h1; omega
 | succ n ih =>
  intro t h1 h2;obtain ⟨g1, g2, g3, g4⟩ := hg t h2;have hin : ∀ u : Nat, u < K.length → (rdS K u).f1 ∈ qb list := fun u hu => qk.2 (Z4 hg (u + 1) u (by omega) hu);have hback : ∀ k ∈ K[t].f2, (rdS K k).f1 ∈ qb list ∧ rd r (atP (qb list) (rdS K k).f1) ≤ rd V k := by
   intro k m;obtain ⟨u, rfl⟩ := Int.eq_ofNat_of_zero_le (g3 k m).1;have := (g3 _ m).2;exact ⟨hin u (by omega), ih u (by omega) (by omega)⟩
  have hw := jS h.right h.nod g4 fun p hp => by
   obtain ⟨k, m, rfl⟩ := List.mem_map.1 hp;exact (hback k m).1
  have ha := qY (hin t h2);rw [zh h2] at ha ⊢;have hle := Q0 h.fix g1 g2 ha.1 (by rw [ha.2]; exact hw);rw [zH _ 1 fun a m => by
   obtain ⟨p, mp, rfl⟩ := List.mem_map.1 m
   obtain ⟨k, mk, rfl⟩ := List.mem_map.1 mp
   have := h.small (qY (hback k mk).1).1
   omega] at hle
  rw [List.map_map, List.map_map] at hle;have hs := jp (s := fun k => rd r (atP (qb list) (rdS K k).f1)) (s' := rd V) K[t].f2 fun k m => (hback k m).2;have hv := hV t h2;rw [zh h2] at hv;rw [hv];refine Int.le_trans hle (jg ?_);show 1 + (K[t].f2.map fun k => rd r (atP (qb list) (rdS K k).f1)).sum ≤ 1 + (K[t].f2.map (rd V)).sum;omega
theorem QN {list list' : List Cr} (hsub : ∀ c ∈ list, c ∈ list') {r r' : List Int} (h : Szs list (qb list) r) (hg : qu list' (qb list') r') (hf : qN list' (qb list') r') :
  ∀ (n : Nat) (i : Int), At (qb list) i → rd r i ≤ (n : Int) → rd r' (atP (qb list') (fc (qb list) i)) ≤ rd r i := by
 have hin : ∀ i : Int, At (qb list) i → fc (qb list) i ∈ qb list' := by
  intro i hi;refine qk.2 (Der.more (fun c hc _ => hsub c hc) (qk.1 ?_));obtain ⟨j, rfl⟩ := Int.eq_ofNat_of_zero_le hi.1;have hj : j < (qb list).length := by have := hi.2; omega
  rw [fc, rdF hj];exact List.getElem_mem hj
 intro n;induction n with
 | zero => intro i hi hn; have := (h.pos hi).1; omega
 | succ n ih =>
  intro i hi hn;obtain ⟨c, hc, ok, fr, hw, hfa, _, hs⟩ := h.plain hi;have hpos : ∀ a ∈ fr, 1 ≤ rd r a := fun a m => (h.pos (hfa a m)).1;have hlt : ∀ a ∈ fr, rd r' (atP (qb list') (fc (qb list) a)) ≤ rd r a := fun a m => ih a (hfa a m) (by have := Qf fr hpos a m; omega);have hw' := jS (qA list') (qt list') (jP h.right h.nod ok hw) fun p hp => by
   obtain ⟨a, m, rfl⟩ := List.mem_map.1 hp;exact hin a (hfa a m)
  have ha := qY (hin i hi);have hle := Q0 hf (hsub c hc) ok ha.1 (by rw [ha.2]; exact hw');rw [zH _ 1 fun a m => by
   obtain ⟨p, mp, rfl⟩ := List.mem_map.1 m
   obtain ⟨b, mb, rfl⟩ := List.mem_map.1 mp
   have := hlt b mb
   have := h.small (hfa b mb)
   omega] at hle
  rw [List.map_map, List.map_map] at hle;have hs2 := jp (s := fun a => rd r' (atP (qb list') (fc (qb list) a))) (s' := rd r) fr hlt;refine Int.le_trans hle (Int.le_trans (V7 _) ?_);show 1 + (fr.map fun a => rd r' (atP (qb list') (fc (qb list) a))).sum ≤ rd r i;omega
theorem ZP {K : List St} (hb : ∀ t : Nat, t < K.length → ∀ k ∈ (rdS K t).f2, 0 ≤ k ∧ k < (t : Int)) : ∀ (d i : Nat) (D : List Int) (m : Int), K.length - i = d → i ≤ K.length → D.length = i → (∀ x ∈ D, 0 ≤ x ∧ x ≤ (i : Int)) → 0 ≤ m → m ≤ (i : Int) → (0 < i → 1 ≤ m) →
  vo (K.drop i) D m ≤ (K.length : Int) ∧ (0 < K.length → 1 ≤ vo (K.drop i) D m) := by
 intro d;induction d with
 | zero =>
  intro i D m hd hi hD hx h0 h1 h2;obtain rfl : i = K.length := by omega
  rw [List.drop_length];exact ⟨h1, h2⟩
 | succ d ih =>
  intro i D m hd hi hD hx h0 h1 h2;have hil : i < K.length := by omega
  rw [List.drop_eq_getElem_cons hil];have hdo := Zi hx K[i].f2 0 (List.all_eq_true.2 fun p mp => by
   have := hb i hil p (by rw [zh hil]; exact mp)
   exact decide_eq_true ⟨this.1, by omega⟩) ⟨by omega, by omega⟩
  show vo (K.drop (i + 1)) (D ++ [dOf D K[i].f2 0 + 1]) (mx m (dOf D K[i].f2 0 + 1)) ≤ _ ∧ _;refine ih (i + 1) _ _ (by omega) (by omega) (by simp [hD]) (fun x hx2 => ?_) ?_ ?_ fun _ => ?_
  ·rcases List.mem_append.1 hx2 with hx2 | hx2
   ·have := hx x hx2; omega
   ·rw [List.mem_singleton.1 hx2]; omega
  ·unfold mx; split <;> omega
  ·unfold mx; split <;> omega
  ·unfold mx; split <;> omega
theorem Vh {list : List Cr} {f : Fc} {K : List St} (h : zT list f K) : 1 ≤ jf K ∧ jf K ≤ (K.length : Int) := by
 unfold jf;rw [if_pos (zD (fun t ht => vu h.good t ht) _ (Nat.le_refl _))];have := ZP (K := K) (fun t ht k m => (h.good t ht).2.2.1 k (by rw [← zh ht]; exact m)) K.length 0 [] 0 rfl (Nat.zero_le _) rfl (fun x hx => by simp at hx) (Int.le_refl _) (Int.le_refl _) (fun z => by omega);rw [List.drop_zero] at this;exact ⟨this.2 h.pos, this.1⟩
theorem qQ {list : List Cr} {f : Fc} {K : List St} (h : zT list f K) : ∀ x ∈ K, x.f2.length ≤ 1048576 := by
 intro x hx;obtain ⟨t, htl, rfl⟩ := List.mem_iff_getElem.1 hx;have := h.few t htl;rw [zh htl] at this;omega
theorem V8 (x : Fc) : ((!(x.f0.f0 == x.f0.f0) || (!(x.f0.f1 == x.f0.f1))) || (!(x.f1 == x.f1))) = false := by simp
theorem Qq {list : List Cr} {f : Fc} {K : List St} (h : zT list f K) : Ev (fun k => Fx.f k K f.f0.f0 f.f0.f1 f.f1) true := by
 have hl := h.len;have hp := h.pos;unfold Fx.f;rw [w64 (by omega) (by omega)];simp only [zi, Option.bind_some, show inB (K.length : Int) 1 200 = true from decide_eq_true ⟨by omega, by omega⟩, ↓reduceIte, show (0 : Int) ≤ (K.length : Int) - 1 by omega, show (K.length : Int) - 1 < (K.length : Int) by omega];have e : rd_T58 K ((K.length : Int) - 1) = rdS K ((K.length - 1 : Nat) : Int) := by
  show rdS K _ = _;congr 1;omega
 rw [e, h.last, V8];refine Ev.succ ?_;simp only [Fx.j0, Bool.false_eq_true, ↓reduceIte];refine Ev.up0 K.length (fun i k => Fx.l0 k K K.length i) (fun _ => true) (fun i hi ih => ?_) ?_ 0 (Nat.zero_le _)
 ·refine Ev.succ ?_;simp only [Fx.l0, qc, hi, ↓reduceIte];refine Ev.bind (jx K (by omega) (qQ h) (i : Int)) ?_;rw [vu h.good i hi];simp only [↓reduceIte, uq_ i];exact ih
 ·refine Ev.succ ?_;simp only [Fx.l0, Int.lt_irrefl, ↓reduceIte];exact Ev.now _
theorem Qm (l : List Int) (hl : l.length ≤ 2097152) : ∃ (list : List Cr) (f : Fc) (ok : Bool), Ev (fun k => F6.f k l) (list, f.f0.f0, f.f0.f1, f.f1, ok) ∧ list.length ≤ 9 ∧ Six list ∧ (ok = true → f ∈ qb list) ∧ (ok = false → qb list = []) := by
 obtain ⟨h, e⟩ := VG l hl;obtain ⟨v, x1, y1, e1, c1, v0, _, _⟩ := q9 (b := l) (i := 0) h ⟨by omega, by omega, hl⟩ 50 (by omega);obtain ⟨list, x2, y2, e2, hlen, _, hsix, _⟩ := Vb (b := l) 9 0 [] x1 y1 rfl (by omega) rfl (fun c hc => by simp at hc) (fun c hc => by simp at hc) c1;have e3 := Qn list (by omega);by_cases hz : (qb list).length = 0
 ·refine ⟨list, ⟨⟨0, 0⟩, 0⟩, false, ?_, hlen, hsix, fun h => (by cases h), fun _ => List.length_eq_zero_iff.1 hz⟩;unfold F6.f;refine Ev.bind e ?_;simp only [e1, Option.bind_some];unfold F9.f;refine Ev.bind e2 ?_;refine Ev.bind e3 ?_;simp only [show ((qb list).length : Int) = 0 by omega, ↓reduceIte];exact Ev.now _
 ·have m0 := Int.tmod_nonneg ((qb list).length : Int) v0;have m1 := Int.tmod_lt_of_pos v (show (0 : Int) < ((qb list).length : Int) by omega);obtain ⟨j, hj⟩ := Int.eq_ofNat_of_zero_le m0;have hjl : j < (qb list).length := by omega
  refine ⟨list, (qb list)[j], true, ?_, hlen, hsix, fun _ => List.getElem_mem hjl, fun h => (by cases h)⟩;unfold F6.f;refine Ev.bind e ?_;simp only [e1, Option.bind_some];unfold F9.f;refine Ev.bind e2 ?_;refine Ev.bind e3 ?_;simp only [show ¬ ((qb list).length : Int) = 0 by omega, ↓reduceIte, hj, qc, qe, hjl, rd_T28, qv _ hjl, qm _ hjl];exact Ev.now _
end Q
end Go.Proofs.Ytljhfomkakhflaa

namespace Go.Proofs.Ytljhfomkakhflaa
open Go.RowKit Go.Proofs.YtljhfomkakhflaaW.PrintWords Go.Proofs.YtljhfomkakhflaaW.PrintLast Go.Proofs.YtljhfomkakhflaaW.PrintMore Go.Proofs.Ytljhfomkakhflaa.PA
set_option linter.unusedVariables false
set_option linter.unusedSimpArgs false
namespace Q
theorem vR.proves {list : List Cr} {f : Fc} {v : Int} {K : List St} (h : vR list f v K) : zT list f K := by
 obtain ⟨V, t, h1, h2, h3, _, _⟩ := h;exact ⟨t.good, t.few, h1, h2, h3⟩
theorem QH (list : List Cr) (hl : list.length ≤ 1048576) (hF : qb list = []) (f : Fc) : Ev (fun k => Fl.f k list f.f0.f0 f.f0.f1 f.f1) (([] : List St), false) := by
 unfold Fl.f;refine Ev.bind (zG list hl) ?_;refine Ev.bind (vL (qb list) f.f0.f0 f.f0.f1 f.f1 (by have := qr list; omega)) ?_;rw [hF];simp only [q8, show ((-1 : Int) < 0) by omega, ↓reduceIte];exact Ev.now _
theorem ZM (list : List Cr) (hl : list.length ≤ 1048576) (hF : qb list = []) (f : Fc) : Ev (fun k => Ff.f k list f.f0.f0 f.f0.f1 f.f1) (([] : List St), false) := by
 obtain ⟨all, h1, h2, h3⟩ := Zv list hl;rw [hF] at h1;have h0 : all = [] := List.map_eq_nil_iff.1 h1;subst h0;unfold Ff.f;refine Ev.bind h3 ?_;refine Ev.bind (vP [] _ _ _ (by simp)) ?_;simp only [show atS ([] : List St) ⟨⟨f.f0.f0, f.f0.f1⟩, f.f1⟩ = -1 from rfl, show ((-1 : Int) < 0) by omega, ↓reduceIte];exact Ev.now _
end Q
theorem Pure.FnLeast : ∀ (x0 : List Int), All U8 x0 → ∃ k, Gx.f k x0 = some true := by
 intro x0 _;refine Q.Ev.get ?_;unfold Gx.f Gz.f;by_cases hb : (x0.length : Int) > 1048576
 ·simp only [Option.bind_some, hb, decide_true, ↓reduceIte];exact Ev.now _
 simp only [Option.bind_some, hb, decide_false, Bool.false_eq_true, ↓reduceIte];obtain ⟨list, f, ok, ed, h9, hsix, hok, hno⟩ := Q.Qm x0 (by omega);refine Ev.bind ed ?_;obtain ⟨tw, ew⟩ := Q.QG ([3] ++ x0) (by simp; omega);have hl : list.length ≤ 1048576 := by omega
 have hF := Q.qr list;obtain ⟨r, er, hg, hfx⟩ := Q.vZ list hl;obtain ⟨w, hw⟩ : ∃ w : Q.Cr, w = ⟨tw.1, ⟨tw.2.1, tw.2.2.1⟩, tw.2.2.2.1, ⟨tw.2.2.2.2.1, tw.2.2.2.2.2.1⟩, ⟨tw.2.2.2.2.2.2.1, tw.2.2.2.2.2.2.2.1⟩, tw.2.2.2.2.2.2.2.2.1, tw.2.2.2.2.2.2.2.2.2⟩ := ⟨_, rfl⟩;have hl' : (list ++ [w]).length ≤ 1048576 := by simp; omega
 obtain ⟨r', er', hg', hfx'⟩ := Q.vZ (list ++ [w]) hl';cases ok with
 | false =>
  have h0 := hno rfl;refine Ev.bind (Q.QH list hl h0 f) ?_;refine Ev.bind (Q.ZM list hl h0 f) ?_;simp only [Option.bind_some, List.nil_append, List.length_nil, Nat.zero_add, show list.length < 1759218604441 by omega, ↓reduceIte, List.length_cons, show 0 + 1 + x0.length < 140737488355328 by omega];refine Ev.bind ew ?_;rw [← hw];refine Ev.bind (Q.zE list hl r hg.1 er f.f0.f0 f.f0.f1 f.f1) ?_;have hc : Q.qZ (Q.qb list) r ⟨f.f0.f0, f.f0.f1⟩ f.f1 = 0 := by
   unfold Q.qZ;rw [h0, if_pos (by show Q.q8 _ [] 0 < 0; simp [Q.q8])]
  simp only [hc, Bool.false_eq_true, ↓reduceIte];refine Ev.bind (Q.vH list hl r hg.1 er) ?_;have hcl := Q.vX (Q.qb list) r;rw [h0] at hcl ⊢;rw [hcl];exact Ev.now _
 | true =>
  have hf := hok rfl;have h : Q.Szs list (Q.qb list) r := ⟨Q.qA list, Q.qt list, hg, hfx, Q.QP list, hsix⟩;obtain ⟨K, eK, hK⟩ := Q.Qh hl h er hf;obtain ⟨out, eo, ho⟩ := Q.QV list hl hf;refine Ev.bind eK ?_;refine Ev.bind eo ?_;simp only [Option.bind_some, List.nil_append, List.length_nil, Nat.zero_add, show list.length < 1759218604441 by omega, ↓reduceIte, List.length_cons, show 0 + 1 + x0.length < 140737488355328 by omega];refine Ev.bind ew ?_;rw [← hw];have hA := Q.qY hf;obtain ⟨v, hv⟩ : ∃ v, v = rd r (Q.atP (Q.qb list) f) := ⟨_, rfl⟩;have hv1 := h.pos hA.1;have hc : Q.qZ (Q.qb list) r ⟨f.f0.f0, f.f0.f1⟩ f.f1 = v := by
   have e : Q.atF (Q.qb list) ⟨f.f0.f0, f.f0.f1⟩ f.f1 = Q.atP (Q.qb list) f := rfl;unfold Q.qZ;rw [e, if_neg (by have := hA.1.1; omega), hv]
  have hK2 : Q.vR list f v K := by rw [hv]; exact hK
  have hP := hK2.proves;have hKl := hP.len;have hol := ho.len;obtain ⟨V, s1, s2⟩ := Q.jD ho;have s3 := Q.jE h ho.good s2 out.length (out.length - 1) (by have := ho.pos; omega) (by have := ho.pos; omega);rw [ho.last, ← hv, ← s1] at s3;have hsub : ∀ c ∈ list, c ∈ list ++ [w] := fun c hc => List.mem_append.2 (.inl hc);have m1 := Q.QN hsub h hg' hfx' (rd r (Q.atP (Q.qb list) f)).toNat (Q.atP (Q.qb list) f) hA.1 (by omega);have hf' : f ∈ Q.qb (list ++ [w]) := Q.qk.2 (Q.Der.more (fun c hc _ => hsub c hc) (Q.qk.1 hf));have hA' := Q.qY hf';rw [hA.2, ← hv] at m1;have m2 := Q.qD hg' hA'.1.1 hA'.1.2;obtain ⟨v', hv'⟩ : ∃ v', v' = rd r' (Q.atP (Q.qb (list ++ [w])) f) := ⟨_, rfl⟩;have hc' : Q.qZ (Q.qb (list ++ [w])) r' ⟨f.f0.f0, f.f0.f1⟩ f.f1 = v' := by
   have e : Q.atF (Q.qb (list ++ [w])) ⟨f.f0.f0, f.f0.f1⟩ f.f1 = Q.atP (Q.qb (list ++ [w])) f := rfl;unfold Q.qZ;rw [e, if_neg (by have := hA'.1.1; omega), hv']
  rw [← hv'] at m1 m2;have dd := Q.Vh hP;have e1 := Q.zE list hl r hg.1 er f.f0.f0 f.f0.f1 f.f1;rw [hc] at e1;have e2 := Q.zE (list ++ [w]) hl' r' hg'.1 er' f.f0.f0 f.f0.f1 f.f1;rw [hc'] at e2;refine Ev.bind e1 ?_;(try simp only [↓reduceIte]);refine Ev.bind (Q.Qq hP) ?_;simp only [↓reduceIte];refine Ev.bind (Q.zC K (by omega) (Q.qQ hP) _) ?_;rw [Q.Qo hK2];simp only [↓reduceIte];refine Ev.bind (Q.zC out (by omega) (Q.qQ ho) _) ?_;simp only [s3, ↓reduceIte];refine Ev.bind e2 ?_;simp only [m1, ↓reduceIte];refine Ev.bind e2 ?_;simp only [show v' > 0 by omega, ↓reduceIte];refine Ev.bind (Q.ze K (by omega) (Q.qQ hP)) ?_;simp only [dd.2, ↓reduceIte];refine Ev.bind (Q.ze K (by omega) (Q.qQ hP)) ?_;simp only [show Q.jf K ≥ 1 from dd.1, decide_true];exact Ev.now _
end Go.Proofs.Ytljhfomkakhflaa
