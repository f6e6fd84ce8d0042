/-
Words of this claim's own: short forms of steps that the walks take often (a fact on the world, carried on).
-/
import Derived.Test.YtcgnegnljffkmaaWWords
import Derived.Test.YtcgnegnljffkmaaWLast
import Derived.Test.YtcgnegnljffkmaaWMore
import Derived.Test.YtcgnegnljffkmaaWApart
import Derived.Test.YtcgnegnljffkmaaWN
namespace Go.Proofs.YtcgnegnljffkmaaW.PrintWords
open Go.RowKit

theorem bl_ {w W : World} (h : Below w.heap.size w W := by repeat (first | (with_reducible first | exact HB.out | apply below_alloc | apply pw_below_drewN | apply below_drew1 | refine below_set ?_ (Aside0.out (by assumption))) | exact HB.out)) : Below w.heap.size w W := h
theorem bls_ {w W : World} (h : Below w.heap.size w W := by repeat (first | (with_reducible first | exact HB.out | apply below_alloc | apply pw_below_drewN | apply below_drew1 | refine below_set ?_ (Aside0.out (by assumption))) | exact HB.out)) : w.heap.size ≤ W.heap.size := below_size h
theorem blw_ {w0 w : World} {g : Nat} {o : Obj} (_h : Aside0 (w0.heap[g]? = some o)) (h : w.heap[g]? = some o := by (with_reducible repeat (first | refine blk_drewN ?_ _ | refine blk_drew ?_ | refine blk_alloc ?_ _)); exact Aside0.out (by assumption)) : w.heap[g]? = some o := h
theorem cb_ {w W : World} {a : Addr} {v : Value} (hb : Aside0 (Below w.heap.size w W)) (h : w.cell? a = some v) : W.cell? a = some v := (hb.out.cell (World.block_lt_of_cell? w _ h)).trans h
theorem ite_t_ {α : Type} {a b : Option α} {r : α} (h : (if true = true then a else b) = some r) : a = some r := by rw [if_pos rfl] at h; exact h
theorem ite_f_ {α : Type} {a b : Option α} {r : α} (h : (if false = true then a else b) = some r) : b = some r := by rw [if_neg (by decide)] at h; exact h
theorem bindE_ {α β : Type} {x : Option α} {f : α → Option β} {r : β} (h : x.bind f = some r) : ∃ t, Aside0 (x = some t) ∧ f t = some r := by
  obtain ⟨t, h1, h2⟩ := Option.bind_eq_some_iff.mp h
  exact ⟨t, ⟨h1⟩, h2⟩
theorem one_R_ (P : Program) {α : Type} {d : Kd α} {e : Nat} {w : World} {base : Nat} {ok : Nat → Prop} {v : Value} {xs : List α} (h : d.R e w base ok v xs) : ∀ (W : World) (a : Addr) (m : Mode), (store a v m).run P W = stored P W a v m := by
  obtain ⟨A, c, rfl, _⟩ := Kd.R_reads h
  exact fun W a m => run_store P W a _ m rfl
theorem one_S_ (P : Program) {α : Type} {d : Kd α} {e : Nat} {w : World} {base : Nat} {ok : Nat → Prop} {v : Value} {xs : List α} (h : d.S e w base ok v xs) : ∀ (W : World) (a : Addr) (m : Mode), (store a v m).run P W = stored P W a v m := one_R_ P (Kd.S_R h)
theorem one_N_ (P : Program) {α : Type} {d : Kd α} {e : Nat} {w : World} {base : Nat} {ok : Nat → Prop} {v : Value} {xs : List α} (h : d.N e w base ok v xs) : ∀ (W : World) (a : Addr) (m : Mode), (store a v m).run P W = stored P W a v m := by
  obtain ⟨A, c, rfl, _⟩ := Kd.N_reads h
  exact fun W a m => run_store P W a _ m rfl

end Go.Proofs.YtcgnegnljffkmaaW.PrintWords
