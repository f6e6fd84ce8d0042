/-
Arrays of numbers of 32 bits, as a block of memory holds them; a turn of a number.
-/
import Derived.Test.YtingghknjicpjaaProg
import Derived.Lib.SliceRun
import Derived.Deep.WholeRow
import Derived.Laws.CopyOwn
import Derived.Laws.CopyRow
import Derived.StillTailTactics
import Derived.Laws.IdiomStrings
import Derived.Laws.StructEq
import Derived.SizedLaws
import Derived.ChangeSlices
import Derived.Test.YtingghknjicpjaaKPWTab
import Derived.Test.YtingghknjicpjaaKPWRepsOne
import Derived.Test.YtingghknjicpjaaKPWGuard
import Derived.Test.YtingghknjicpjaaKPZWords
namespace Go.Proofs.Ytingghknjicpjaa.PS
open Go.RowKit Go.Proofs.YtingghknjicpjaaW.PrintWords Go.Proofs.YtingghknjicpjaaW.PrintLast Go.Proofs.YtingghknjicpjaaW.PrintMore
set_option linter.unusedVariables false
def u32s (l : List Int) : Array Value := (l.map (fun x => Value.int .u32 x)).toArray
theorem u32s_size (l : List Int) : (u32s l).size = l.length := by simp [u32s]
theorem u32s_one (l : List Int) : (u32s l).all (·.oneCell') = true := by simp [u32s, Value.oneCell']
theorem u32s_set (l : List Int) (n : Nat) (x : Int) : (u32s l).setIfInBounds n (.int .u32 x) = u32s (l.set n x) := by
  unfold u32s
  rw [List.setIfInBounds_toArray, List.map_set]
theorem u32s_get (l : List Int) (i : Int) (h0 : 0 ≤ i) (h1 : i < (l.length : Int)) : (u32s l)[i.toNat]? = some (.int .u32 (rd l i)) := by
  have h : i.toNat < l.length := by omega
  simp [u32s, rd, h]
theorem u_cell {w : World} {g : Nat} {t : TypeId} {l : List Int} (h : Aside0 (w.heap[g]? = some (.cells (u32s l) t (0, 0)))) (i : Int) (h0 : 0 ≤ i) (h1 : i < (l.length : Int)) : w.cell? ⟨g, i.toNat, none⟩ = some (.int .u32 (rd l i)) := by
  rw [blk_cell h.out, u32s_get l i h0 h1]
theorem u_at {w : World} {g : Nat} {t : TypeId} {l : List Int} (h : Aside0 (w.heap[g]? = some (.cells (u32s l) t (0, 0)))) (i : Nat) (h1 : i < l.length) : w.cell? ⟨g, i, none⟩ = some (.int .u32 (rd l (i : Int))) := by simpa using u_cell h (i : Int) (by omega) (by omega)
theorem u_frz {w : World} {g : Nat} {t : TypeId} {l : List Int} (h : Aside0 (w.heap[g]? = some (.cells (u32s l) t (0, 0)))) (i : Nat) : w.frozen? ⟨g, i, none⟩ = false := blk_frozen h.out i
theorem u_put {w : World} {g : Nat} {t : TypeId} {l : List Int} (h : Aside0 (w.heap[g]? = some (.cells (u32s l) t (0, 0)))) (n : Nat) (x : Int) : Aside0 ((w.setCell ⟨g, n, none⟩ (.int .u32 x)).heap[g]? = some (.cells (u32s (l.set n x)) t (0, 0))) := ⟨by rw [blk_set h.out, u32s_set]⟩
theorem u_far {w : World} {g g' : Nat} {o : Obj} (h : Aside0 (w.heap[g]? = some o)) (n : Nat) (v : Value) (hn : g ≠ g') : Aside0 ((w.setCell ⟨g', n, none⟩ v).heap[g]? = some o) := ⟨(Below.heap_setCell w ⟨g', n, none⟩ v g hn).trans h.out⟩
def zero8 : List Int := List.replicate 8 0
def zero64 : List Int := List.replicate 64 0
theorem zero64_len : zero64.length = 64 := List.length_replicate
theorem z28 (w : World) : (zeroValue 28).run Try.prog w = .ok (.agg (u32s zero64)) w := by kernel_rfl
theorem i26 : (Try.prog.info? 26).map (·.size) = some 8 := by kernel_rfl
theorem i28 : (Try.prog.info? 28).map (·.size) = some 64 := by kernel_rfl
theorem und26 : Try.prog.underlying 26 = some (.array 8 25) := by kernel_rfl
theorem und28 : Try.prog.underlying 28 = some (.array 64 25) := by kernel_rfl
theorem b28 : Try.prog.built 28 [] = some (u32s zero64) := by kernel_rfl
theorem build28 {ops : Array Oper} {rest : List Oper} {o : Oper} {a : Act} {w : World} {Q : Exit → Act → World → Prop} (hg : o.guard = none) (ho : o.op = .build 28 #[]) (h : wpList Try.prog ops Q rest (a.put o.dst (.agg (u32s zero64))) w) : wpList Try.prog ops Q (o :: rest) a w := by
  have e : (Try.prog.built 28 ((#[] : Array (Nat × Operand)).map fun (i, x) => (i, a.eval x)).toList) = some (u32s zero64) := by
    simp only [List.map_toArray, List.map_nil]
    exact b28
  refine wpList_build hg 28 #[] ho (by rw [e]; rfl) ?_
  rw [e]
  exact h
theorem alloc28 (a : Act) (o : Oper) (ho : o.op = .alloc 28) (W : World) : (execOp a.eval o).run Try.prog W = .ok (.value (.pointer (some ⟨W.heap.size, 0, none⟩))) (W.alloc (.cells (u32s zero64) 28 (0, 0))) := by
  unfold execOp
  simp [ho, Instr.alloc, -Try.zeroValue28, z28, Sem.run_bind, Result.andThen, newVar, newRow, Value.cells]
def wd (b : ByteArray) (i : Nat) : Int := Go.bits .or .u32 (Go.bits .or .u32 (Go.bits .or .u32 ((((bt b ((4 * i : Nat) : Int)) % 4294967296) * 16777216) % 4294967296) ((((bt b ((4 * i + 1 : Nat) : Int)) % 4294967296) * 65536) % 4294967296)) ((((bt b ((4 * i + 2 : Nat) : Int)) % 4294967296) * 256) % 4294967296)) ((bt b ((4 * i + 3 : Nat) : Int)) % 4294967296)
def wA (b : ByteArray) : Nat → List Int
  | 0 => zero64
  | i + 1 => (wA b i).set i (wd b i)
theorem wA_len (b : ByteArray) : ∀ i, (wA b i).length = 64
  | 0 => zero64_len
  | i + 1 => by rw [wA, List.length_set, wA_len b i]
theorem w4_ {i : Nat} (h : i < 16) : IntKind.i64.wrap (4 * (i : Int)) = ((4 * i : Nat) : Int) := by rw [i64_w]; unfold wrap64; omega
theorem w4p_ {i : Nat} (h : i < 16) (k : Nat) (hk : k < 4) : IntKind.i64.wrap (((4 * i : Nat) : Int) + (k : Int)) = ((4 * i + k : Nat) : Int) := by rw [i64_w]; unfold wrap64; omega
theorem up_n {i : Nat} (h : i < 1000) : wrap64 ((i : Int) + 1) = ((i + 1 : Nat) : Int) := by unfold wrap64; omega
def lturn (a0 : Int) (a1 : Int) : Option (Int) := if 0 ≤ a1 then (if 0 ≤ (IntKind.u64.wrap (32 - a1)) then (some (Go.bits .or .u32 (shr .u32 a0 a1) (shl .u32 a0 (IntKind.u64.wrap (32 - a1))))) else (none)) else (none)
set_option maxHeartbeats 8000000 in
set_option maxRecDepth 100000 in
theorem turn_exact (a0 : Int) (a1 : Int) (r : Int) (w : World) (h : lturn a0 a1 = some r) :
    Calls Try.prog 15 #[.int .u32 a0, .int .u64 a1] w fun e w' => e = .returned (.int .u32 r) ∧ w' = w := by
  have H : (if 0 ≤ a1 then (if 0 ≤ (IntKind.u64.wrap (32 - a1)) then (some (Go.bits .or .u32 (shr .u32 a0 a1) (shl .u32 a0 (IntKind.u64.wrap (32 - a1))))) else (none)) else (none)) = some r := h
  clear h
  by_cases c3 : 0 ≤ a1
  · rw [if_pos c3] at H
    have c3b0 := eq_true c3
    have c3b1 : decide (0 ≤ a1) = true := decide_eq_true c3
    clear c3
    obtain ⟨ji4, hji4⟩ : ∃ j_ : Int, (shr .u32 a0 a1) = j_ := ⟨_, rfl⟩
    replace H : (if 0 ≤ (IntKind.u64.wrap (32 - a1)) then (some (Go.bits .or .u32 (ji4) (shl .u32 a0 (IntKind.u64.wrap (32 - a1))))) else (none)) = some r := by first | (rw [hji4] at H; exact H) | (simp only [hji4] at H ⊢; exact H)
    have hji4_ : (a0 / 2 ^ min a1.toNat 32) = ji4 := hji4
    have hji4z : a1 ≤ 32 → (a0 / 2 ^ a1.toNat) = ji4 := shr_small hji4
    obtain ⟨ji5, hji5⟩ : ∃ j_ : Int, (IntKind.u64.wrap (32 - a1)) = j_ := ⟨_, rfl⟩
    replace H : (if 0 ≤ (ji5) then (some (Go.bits .or .u32 (ji4) (shl .u32 a0 (ji5)))) else (none)) = some r := by first | (rw [hji5] at H; exact H) | (simp only [hji5] at H ⊢; exact H)
    by_cases c6 : 0 ≤ (ji5)
    · rw [if_pos c6] at H
      have c6b0 := eq_true c6
      have c6b1 : decide (0 ≤ (ji5)) = true := decide_eq_true c6
      clear c6
      obtain ⟨ji7, hji7⟩ : ∃ j_ : Int, (shl .u32 a0 (ji5)) = j_ := ⟨_, rfl⟩
      replace H : (some (Go.bits .or .u32 (ji4) (ji7))) = some r := by first | (rw [hji7] at H; exact H) | (simp only [hji7] at H ⊢; exact H)
      have hji7_ : (IntKind.u32.wrap (a0 * 2 ^ min (ji5).toNat 32)) = ji7 := hji7
      have hji7z : (ji5) ≤ 32 → (IntKind.u32.wrap (a0 * 2 ^ (ji5).toNat)) = ji7 := shl_small hji7
      obtain rfl := Option.some.inj H
      go_enter Try.func15, Try.ntmps15
      go_wp2
      go_ret
      exact ⟨by first | rfl | (simp; done) | (simp only [← hji4, ← hji5, ← hji7] <;> (first | rfl | simp)) | (simp [*]; done), rfl⟩
    · rw [if_neg c6] at H
      exact absurd H (by simp)
  · rw [if_neg c3] at H
    exact absurd H (by simp)
def tv (x n : Int) : Int := Go.bits .or .u32 (shr .u32 x n) (shl .u32 x (32 - n))
theorem tv_eq (x : Int) {n : Int} (h0 : 0 ≤ n) (h1 : n ≤ 32) : lturn x n = some (tv x n) := by
  unfold lturn tv
  have e : IntKind.u64.wrap (32 - n) = 32 - n := by rw [IntKind.wrap_u64]; omega
  rw [e, if_pos h0, if_pos (by omega)]
theorem turn_calls (x n : Int) (w : World) (h0 : 0 ≤ n) (h1 : n ≤ 32) : Calls Try.prog 15 #[.int .u32 x, .int .u64 n] w fun e w' => e = .returned (.int .u32 (tv x n)) ∧ w' = w := turn_exact x n _ w (tv_eq x h0 h1)
def nx (L : List Int) (k : Nat) : Int := (rd L ((k : Nat) : Int) + Go.bits .xor .u32 (Go.bits .xor .u32 (tv (rd L ((k + 1 : Nat) : Int)) 7) (tv (rd L ((k + 1 : Nat) : Int)) 18)) (rd L ((k + 1 : Nat) : Int) / 8) + rd L ((k + 9 : Nat) : Int) + Go.bits .xor .u32 (Go.bits .xor .u32 (tv (rd L ((k + 14 : Nat) : Int)) 17) (tv (rd L ((k + 14 : Nat) : Int)) 19)) (rd L ((k + 14 : Nat) : Int) / 1024)) % 4294967296
def wB (b : ByteArray) : Nat → List Int
  | 0 => wA b 16
  | k + 1 => (wB b k).set (k + 16) (nx (wB b k) k)
theorem wB_len (b : ByteArray) : ∀ k, (wB b k).length = 64
  | 0 => wA_len b 16
  | k + 1 => by rw [wB, List.length_set, wB_len b k]
theorem ws_ (k m d : Nat) (hk : k < 48) (h : m + d = 16) (hd : d ≤ 16) : IntKind.i64.wrap (((k + 16 : Nat) : Int) - (m : Int)) = ((k + d : Nat) : Int) := by rw [i64_w]; unfold wrap64; omega
def rOne (S : List Int) (k w : Int) : Int := rd S 7 + Go.bits .xor .u32 (Go.bits .xor .u32 (tv (rd S 4) 6) (tv (rd S 4) 11)) (tv (rd S 4) 25) + Go.bits .xor .u32 (Go.bits .and .u32 (rd S 4) (rd S 5)) (Go.bits .and .u32 (Go.bits .xor .u32 (rd S 4) 4294967295) (rd S 6)) + k + w
def rTwo (S : List Int) : Int := Go.bits .xor .u32 (Go.bits .xor .u32 (tv (rd S 0) 2) (tv (rd S 0) 13)) (tv (rd S 0) 22) + Go.bits .xor .u32 (Go.bits .xor .u32 (Go.bits .and .u32 (rd S 0) (rd S 1)) (Go.bits .and .u32 (rd S 0) (rd S 2))) (Go.bits .and .u32 (rd S 1) (rd S 2))
def rnd (S : List Int) (k w : Int) : List Int := (((((((S.set 7 (rd S 6)).set 6 (rd S 5)).set 5 (rd S 4)).set 4 ((rd S 3 + rOne S k w) % 4294967296)).set 3 (rd S 2)).set 2 (rd S 1)).set 1 (rd S 0)).set 0 ((rOne S k w + rTwo S) % 4294967296)
def stC (S0 ks W : List Int) : Nat → List Int
  | 0 => S0
  | i + 1 => rnd (stC S0 ks W i) (rd ks (i : Int)) (rd W (i : Int))
def hD (h S : List Int) : Nat → List Int
  | 0 => h
  | i + 1 => (hD h S i).set i ((rd (hD h S i) (i : Int) + rd S (i : Int)) % 4294967296)
theorem rnd_len (S : List Int) (k w : Int) : (rnd S k w).length = S.length := by simp [rnd]
theorem stC_len (S0 ks W : List Int) : ∀ i, (stC S0 ks W i).length = S0.length
  | 0 => rfl
  | i + 1 => by rw [stC, rnd_len, stC_len S0 ks W i]
theorem hD_len (h S : List Int) : ∀ i, (hD h S i).length = h.length
  | 0 => rfl
  | i + 1 => by rw [hD, List.length_set, hD_len h S i]
def blockV (hs ks : List Int) (b : ByteArray) : List Int := hD hs (stC hs ks (wB b 48) 64) 8
theorem load26 {ops : Array Oper} {rest : List Oper} {o : Oper} {a : Act} {w : World} {Q : Exit → Act → World → Prop} (hgd : o.guard = none) (x : Operand) (ho : o.op = .load 26 x) (g : Nat) (hx : a.eval x = .pointer (some ⟨g, 0, none⟩)) (l : List Int) (hl : l.length = 8)
    (hg : Aside0 (w.heap[g]? = some (.cells (u32s l) 26 (0, 0)))) (h : wpList Try.prog ops Q rest (a.put o.dst (.agg (u32s l))) w) : wpList Try.prog ops Q (o :: rest) a w :=
  wpList_load_row hgd 26 x ho g hx 26 (u32s l) (0, 0) (.array 8 25) hg.out und26 rfl (by rw [u32s_size, hl]; exact i26) h
theorem store26 {ops : Array Oper} {rest : List Oper} {o : Oper} {a : Act} {w : World} {Q : Exit → Act → World → Prop} (hgd : o.guard = none) (x y : Operand) (ho : o.op = .store 26 x y) (g : Nat) (hx : a.eval x = .pointer (some ⟨g, 0, none⟩)) (l l0 : List Int) (hy : a.eval y = .agg (u32s l)) (hl : l.length = 8) (hl0 : l0.length = 8)
    (hg : Aside0 (w.heap[g]? = some (.cells (u32s l0) 26 (0, 0)))) (h : ∀ w1, w1.heap[g]? = some (.cells (u32s l) 26 (0, 0)) → (∀ k, k ≠ g → w1.heap[k]? = w.heap[k]?) → (∀ {B : Nat} {w0 : World}, Below B w0 w → B ≤ g → Below B w0 w1) → wpList Try.prog ops Q rest (a.put o.dst undef) w1) : wpList Try.prog ops Q (o :: rest) a w :=
  wpList_store_row hgd 26 x y ho g (u32s l) hx hy 26 (u32s l0) hg.out (by rw [u32s_size, hl]; exact i26) (by rw [u32s_size, u32s_size, hl, hl0]) (u32s_one _) (h _ (setRow_heap w g (u32s l0) (u32s l) 26 (0, 0) hg.out) (fun k hk => setRow_other w g k (u32s l) hk) (fun hb hB => below_setRow hb hB (u32s l)))
def first8 : List Int := [1779033703, 3144134277, 1013904242, 2773480762, 1359893119, 2600822924, 528734635, 1541459225]
set_option maxHeartbeats 8000000 in
set_option maxRecDepth 100000 in
theorem spec_l03First.calls (w : World) : Calls Try.prog 8 #[] w fun e w' => e = .returned (.agg (u32s first8)) ∧ Below w.heap.size w w' := by
  go_enter Try.func8, Try.ntmps8
  go_wp2
  refine bodyPost_ret (results_cell_row rfl _ _ w.heap.size 26 _ (0, 0) _ rfl (heap_alloc_new _ _) und26 rfl i26) rfl ⟨rfl, ?_⟩
  repeat (first | exact Below.refl _ _ | apply below_alloc)
end Go.Proofs.Ytingghknjicpjaa.PS
