/-
spec.PadText and spec.Digest: what they tell, of texts of at most 2097152 bytes.
-/
import Derived.Test.YtingghknjicpjaaKPSh1
namespace Go.Proofs.Ytingghknjicpjaa.PS
open Go.RowKit Go.Proofs.YtingghknjicpjaaW.PrintWords Go.Proofs.YtingghknjicpjaaW.PrintLast Go.Proofs.YtingghknjicpjaaW.PrintMore
set_option linter.unusedVariables false
def byteV (b : UInt8) : Value := .int .u8 (b.toNat : Int)
def BRow (B : Nat) (w : World) (v : Value) (l : List UInt8) : Prop :=
  ∃ g cap, v = .slice (some ⟨g, 0, none⟩) l.length cap ∧ B ≤ g ∧ g < w.heap.size ∧ (∀ j u, (l.map byteV)[j]? = some u → w.cell? ⟨g, j, none⟩ = some u) ∧ (∀ j, l.length ≤ j → j < cap → (w.cell? ⟨g, j, none⟩).isSome = true ∧ w.frozen? ⟨g, j, none⟩ = false)
theorem BRow.below {B : Nat} {w w' : World} {v : Value} {l : List UInt8} (h : BRow B w v l) (hb : Below w.heap.size w w') : BRow B w' v l := by
  obtain ⟨g, cap, hv, hB, hg, hc, hs⟩ := h
  exact ⟨g, cap, hv, hB, Nat.lt_of_lt_of_le hg hb.size, fun j u hu => (hb.cell (p := ⟨g, j, none⟩) hg).trans (hc j u hu), fun j h1 h2 => by rw [hb.cell (p := ⟨g, j, none⟩) hg, hb.frozen (p := ⟨g, j, none⟩) hg]; exact hs j h1 h2⟩
theorem brow_of_own {B : Nat} {w : World} {v : Value} {l : List UInt8} (h : w.ownsRow B 5 1 v l.length (l.map byteV)) (h0 : 0 < l.length) : BRow B w v l := by
  obtain ⟨hl, h⟩ := h
  rcases h with ⟨_, h⟩ | ⟨g, cap, cur, hv, hB, hh, hnc, hcm, hcs, ht⟩
  · omega
  · refine ⟨g, cap, hv, hB, blk_lt hh, fun j u hu => ?_, fun j h1 h2 => ⟨?_, blk_frozen hh j⟩⟩
    · rw [blk_cell hh]
      rw [← ht] at hu
      rw [List.getElem?_take] at hu
      split at hu
      · simpa using hu
      · simp at hu
    · rw [blk_cell hh]
      have : j < cur.size := by omega
      simp [this]
theorem info5 : (Try.prog.info? 5).map (fun i => (i.zero, i.size, i.bytes)) = some (some (.int .u8 0), 1, 1) := by kernel_rfl
theorem und31 : Try.prog.underlying 31 = some (.slice 5) := by kernel_rfl
theorem und5 : Try.prog.underlying 5 = some (.int .u8) := by kernel_rfl
theorem und9 : Try.prog.underlying 9 = some .string := by kernel_rfl
theorem append1 {ops : Array Oper} {rest : List Oper} {o : Oper} {a : Act} {Q : Exit → Act → World → Prop} {W : World} {B : Nat} {v : Value} {l : List UInt8} (hgd : o.guard = none) (s x : Operand)
    (ho : o.op = .call { callee := .builtin .append, args := #[s, x], argTypes := #[31, 31] }) (hs : a.eval s = v) (h : BRow B W v l) (b : UInt8) (g1 : Nat) (hx : a.eval x = .slice (some ⟨g1, 0, none⟩) 1 1) (hc : W.cell? ⟨g1, 0, none⟩ = some (byteV b)) (hB : B ≤ W.heap.size) (hl : l.length < 1000000000)
    (hK : ∀ v' w', BRow B w' v' (l ++ [b]) → (∀ {w0 : World}, Below B w0 W → Below B w0 w') → wpList Try.prog ops Q rest (a.put o.dst v') w') : wpList Try.prog ops Q (o :: rest) a W := by
  obtain ⟨g, cap, rfl, hBg, hg, hcell, hsp⟩ := h
  cases hq : Try.prog.info? 5 with
  | none => have := info5; simp [hq] at this
  | some i =>
    have hi := info5
    rw [hq] at hi
    simp only [Option.map_some, Option.some.injEq, Prod.mk.injEq] at hi
    obtain ⟨hz, hsz, hby⟩ := hi
    refine wpList_append_arg W hgd s x 31 ho 5 i (.int .u8 0) 1 1 und31 hq hz hsz hby rfl (by decide) g 0 l.length cap (l.map byteV) hs (by simp) (fun j u hu => by rw [Nat.zero_add]; exact hcell j u hu) ⟨g1, 0, none⟩ 1 1 [byteV b] hx rfl (fun j u hu => ?_) (fun u hu => by rw [List.mem_singleton.1 hu]; rfl)
      (fun hr j hj => ?_) (by simp only [maxLen]; omega) (by omega) (fun hr => ?_) (fun hr v' w' ho' hg' => ?_)
    · cases j with
      | zero => rw [List.getElem?_cons_zero] at hu; rw [← Option.some.inj hu]; exact hc
      | succ j => simp at hu
    · simp only [List.length_singleton] at hj
      obtain rfl : j = 0 := by omega
      simpa using hsp l.length (Nat.le_refl _) (by omega)
    · have e : W.setCells g (0 + l.length * 1) [byteV b] = W.setCell ⟨g, l.length, none⟩ (byteV b) := by simp [World.setCells]
      rw [e]
      refine hK _ _ ⟨g, cap, by simp, hBg, by simpa [World.setCell] using hg, fun j u hu => ?_, fun j h1 h2 => ?_⟩ (fun hb => hb.setCell hBg _)
      · by_cases ej : j = l.length
        · subst ej
          rw [World.cell?_setCell_same' _ _ _ (hsp l.length (Nat.le_refl _) (by omega)).1]
          simpa using hu
        · rw [World.cell?_setCell_other _ _ _ _ (by intro e2; injection e2; omega)]
          refine hcell j u ?_
          rw [List.map_append, List.getElem?_append] at hu
          split at hu
          · exact hu
          · rename_i hlt
            simp only [List.length_map] at hlt
            have : j - (l.map byteV).length ≠ 0 := by simp only [List.length_map]; omega
            rw [List.map_cons, List.map_nil, List.getElem?_cons, if_neg this] at hu
            simp at hu
      · rw [List.length_append, List.length_singleton] at h1
        rw [World.cell?_setCell_other _ _ _ _ (by intro e2; injection e2; omega), World.frozen?_setCell]
        exact hsp j (by omega) h2
    · refine hK _ _ ?_ (fun hb => hb.grown hg' hB (fun k hk => by cases hk))
      have e : l.map byteV ++ [byteV b] = (l ++ [b]).map byteV := by simp
      rw [e] at ho'
      have h2 := brow_of_own (l := l ++ [b]) (by simpa using ho') (by simp)
      obtain ⟨g', c', h3, h4, h5⟩ := h2
      exact ⟨g', c', h3, Nat.le_trans hB h4, h5⟩
theorem conv1 {ops : Array Oper} {rest : List Oper} {o : Oper} {a : Act} {Q : Exit → Act → World → Prop} {W : World} {B : Nat} (hgd : o.guard = none) (x : Operand) (ho : o.op = .convert 9 31 x) (s : ByteArray) (hx : a.eval x = .string s) (hB : B ≤ W.heap.size)
    (hK : ∀ v' w', BRow B w' v' s.data.toList → (∀ {w0 : World}, Below B w0 W → Below B w0 w') → wpList Try.prog ops Q rest (a.put o.dst v') w') : wpList Try.prog ops Q (o :: rest) a W := by
  refine wpList_plain hgd fun K hK' => ?_
  have hr := run_bytes_of_string (P := Try.prog) W 9 31 5 s und9 und31 und5
  generalize hcap : grownCap W s.size 0 5 = cap at hr
  have hr2 : (execOp a.eval o).run Try.prog W = .ok (.value (.slice (some ⟨W.heap.size, 0, none⟩) s.size cap)) (W.drew.alloc (.cells (bytesRow s cap) 5 ((bytesRow s cap).size, (bytesRow s cap).size + 1))) := by
    unfold execOp
    simp [ho, hx, hr]
  have hsz : (bytesRow s cap).size = s.size + (cap - s.size) := by simp [bytesRow]
  unfold Oper.wp
  rw [hr2]
  refine hK' _ _ (hK _ _ ⟨W.heap.size, cap, by rw [Array.length_toList]; rfl, hB, by simp, fun j u hu => ?_, fun j h1 h2 => ?_⟩ (fun hb => hb.trans ⟨rfl, rfl, rfl, by simp, fun k hk => Below.heap_alloc W.drew _ k (Nat.lt_of_lt_of_le hk hB)⟩))
  · rw [show W.heap.size = W.drew.heap.size from rfl, World.cell?_alloc_mark]
    rw [List.getElem?_map] at hu
    cases hj : s.data.toList[j]? with
    | none => rw [hj] at hu; simp at hu
    | some b =>
      rw [hj] at hu
      have hlt : j < s.data.size := by
        have := (List.getElem?_eq_some_iff.1 hj).1
        simpa using this
      rw [bytesRow_at s cap j hlt, ← Option.some.inj hu]
      have := (List.getElem?_eq_some_iff.1 hj).2
      rw [Array.getElem_toList] at this
      rw [this]
      rfl
  · rw [Array.length_toList] at h1
    have hlt : j < (bytesRow s cap).size := by rw [hsz]; have : s.data.size = s.size := rfl; omega
    constructor
    · rw [show W.heap.size = W.drew.heap.size from rfl, World.cell?_alloc_mark]
      simp [hlt]
    · have : (W.drew.alloc (.cells (bytesRow s cap) 5 ((bytesRow s cap).size, (bytesRow s cap).size + 1))).heap[W.heap.size]? = some (.cells (bytesRow s cap) 5 ((bytesRow s cap).size, (bytesRow s cap).size + 1)) := by
        show (W.heap.push _)[W.heap.size]? = _
        simp
      simp only [World.frozen?, this]
      simp
      omega
theorem conv2 {ops : Array Oper} {rest : List Oper} {o : Oper} {a : Act} {Q : Exit → Act → World → Prop} {W : World} {B : Nat} {v : Value} {l : List UInt8} (hgd : o.guard = none) (x : Operand) (ho : o.op = .convert 31 9 x) (hx : a.eval x = v) (h : BRow B W v l)
    (hK : wpList Try.prog ops Q rest (a.put o.dst (.string ⟨l.toArray⟩)) W) : wpList Try.prog ops Q (o :: rest) a W := by
  obtain ⟨g, cap, rfl, hBg, hg, hcell, hsp⟩ := h
  refine wpList_plain hgd fun K hK' => ?_
  have hr := run_convert_bytes_back (P := Try.prog) W 31 9 5 ⟨g, 0, none⟩ cap l und31 und5 und9 (fun j hj => by
    rw [show (⟨g, 0, none⟩ : Addr).add j = ⟨g, j, none⟩ by unfold Addr.add; split <;> simp_all]
    exact hcell j _ (by rw [List.getElem?_map, List.getElem?_eq_getElem hj]; rfl))
  have hr2 : (execOp a.eval o).run Try.prog W = .ok (.value (.string ⟨l.toArray⟩)) W := by
    unfold execOp
    simp [ho, hx, hr]
  unfold Oper.wp
  rw [hr2]
  exact hK' _ _ hK
def padZ (n : Nat) : Nat := (119 - n % 64) % 64
def be (n i : Nat) : UInt8 := UInt8.ofNat (8 * n / 2 ^ (8 * i) % 256)
def beL (n : Nat) : Nat → List UInt8
  | 0 => []
  | k + 1 => beL n k ++ [be n (7 - k)]
theorem be_int (n i : Nat) : ((be n i).toNat : Int) = ((8 * n : Nat) : Int) / ((2 ^ (8 * i) : Nat) : Int) % 256 := by
  unfold be
  rw [UInt8.toNat_ofNat', Nat.mod_mod_of_dvd _ (by decide)]
  rw [Int.natCast_emod, Int.natCast_ediv]
  rfl
theorem beL_len (n : Nat) : ∀ k, (beL n k).length = k
  | 0 => rfl
  | k + 1 => by rw [beL, List.length_append, beL_len n k]; rfl
def padS (s : ByteArray) : List UInt8 := s.data.toList ++ [128] ++ List.replicate (padZ s.size) 0 ++ [be s.size 7, be s.size 6, be s.size 5, be s.size 4, be s.size 3, be s.size 2, be s.size 1, be s.size 0]
theorem len_pad (s : ByteArray) (j : Nat) : (s.data.toList ++ [128] ++ List.replicate j (0 : UInt8)).length = s.size + 1 + j := by
  simp
  show s.size + (j + 1) = _
  omega
theorem brow_form {B : Nat} {w : World} {v : Value} {l : List UInt8} (h : BRow B w v l) : ∃ g cap, v = .slice (some ⟨g, 0, none⟩) l.length cap := by
  obtain ⟨g, cap, h, _⟩ := h
  exact ⟨g, cap, h⟩
set_option maxHeartbeats 8000000 in
set_option maxRecDepth 100000 in
theorem padtext_calls (s : ByteArray) (hs : s.size ≤ 3000000) (w : World) : Calls Try.prog 10 #[.string s] w fun e w' => e = .returned (.string ⟨(padS s).toArray⟩) ∧ Below w.heap.size w w' := by
  have HB := Aside0.mk (Below.refl w.heap.size w)
  have HS := Aside0.mk hs
  clear hs
  go_enter Try.func10, Try.ntmps10
  go_wp2_with (first
    | ((with_reducible refine gate_dst (N := 7) rfl ?_); refine conv1 (B := w.heap.size) rfl (.tmp 6) rfl s rfl (Nat.le_refl _) ?_; intro v1 w1 hr hb; have HR := Aside0.mk hr; replace HB := Aside0.mk (hb HB.out); clear hr hb)
    | ((with_reducible refine gate_builtin (b := .append) (xs := #[.tmp 8, .tmp 9]) rfl ?_); at_builtin; refine append1 (B := w.heap.size) rfl (.tmp 8) (.tmp 9) rfl rfl (BRow.below HR.out (below_alloc (Below.refl _ _) _)) 128 _ rfl ?ac ?aB ?al ?aK; (case ac => first | (simp [byteV]; done) | (rw [cell_alloc0_]; rfl)); (case aB => exact Nat.le_trans (below_size HB.out) (by simp)); (case al => have := HS.out; rw [Array.length_toList]; show s.data.size < _; have e : s.data.size = s.size := rfl; omega); intro v2 w2 hr hb; replace HR := Aside0.mk hr; replace HB := Aside0.mk (hb (below_alloc HB.out _)); clear hr hb))
  go_loopg [3] (padZ s.size) (fun kq v3 w' => ∃ j : Nat, Aside0 (BRow w.heap.size w' v3 (s.data.toList ++ [128] ++ List.replicate j 0)) ∧ Aside0 (j + kq = padZ s.size) ∧ Aside0 (Below w.heap.size w w'))
  case atStart => exact ⟨0, ⟨by rw [List.replicate_zero, List.append_nil]; exact HR.out⟩, ⟨Nat.zero_add _⟩, HB⟩
  case round =>
    clear HR HB
    obtain ⟨j, HR, HI, HB⟩ := hrel
    have HL := Aside0.mk (len_pad s j)
    obtain ⟨l, hl⟩ : ∃ l, l = s.data.toList ++ [128] ++ List.replicate j (0 : UInt8) := ⟨_, rfl⟩
    have EL := Aside0.mk hl
    rw [← hl] at HR HL
    clear hl
    obtain ⟨g, cap, hv⟩ := brow_form HR.out
    subst hv
    cases gk with
    | zero =>
      have c0 : ((l.length : Int) % 64 != 56) = false := by
        have h1 := HL.out
        have h2 := HI.out
        rw [bne_eq_false_iff_eq]
        rw [h1]
        unfold padZ at h2
        omega
      obtain ⟨n8, hn8⟩ : ∃ n8 : Int, wrap64 (8 * (s.size : Int)) = n8 := ⟨_, rfl⟩
      have E8 : Aside0 (n8 = ((8 * s.size : Nat) : Int)) := ⟨by rw [← hn8]; have := HS.out; unfold wrap64; omega⟩
      have hn8w : IntKind.i64.wrap (8 * (s.size : Int)) = n8 := (i64_w _).trans hn8
      have HZ : Aside0 (j = padZ s.size) := ⟨by have := HI.out; omega⟩
      have HL2 : Aside0 (l.length ≤ 3000100) := ⟨by have := HS.out; rw [HL.out]; have := HI.out; unfold padZ at this; omega⟩
      clear HL HI
      go_wp2
      go_loopg [3, 5] 8 (fun kq v3 v5 w' => ∃ (k : Nat) (x5 : Int), v5 = .int .i64 x5 ∧ Aside0 (x5 = 7 - (k : Int)) ∧ Aside0 (k + kq = 8) ∧ Aside0 (BRow w.heap.size w' v3 (l ++ beL s.size k)) ∧ Aside0 (Below w.heap.size w w'))
      case atStart => exact ⟨0, 7, rfl, ⟨rfl⟩, ⟨rfl⟩, ⟨by rw [beL, List.append_nil]; exact HR.out⟩, HB⟩
      case round =>
        clear HR HB
        obtain ⟨k, x5, rfl, E5, HI, HR, HB⟩ := hrel
        have HL : Aside0 ((l ++ beL s.size k).length ≤ 3000200) := ⟨by rw [List.length_append, beL_len]; have := HL2.out; have := HI.out; omega⟩
        obtain ⟨m, hm⟩ : ∃ m, m = l ++ beL s.size k := ⟨_, rfl⟩
        have EM := Aside0.mk hm
        rw [← hm] at HR HL
        clear hm
        obtain ⟨g2, cap2, hv⟩ := brow_form HR.out
        subst hv
        cases gk with
        | zero =>
          have c0 : decide (0 ≤ x5) = false := decide_eq_false (by rw [E5.out]; have := HI.out; omega)
          go_wp2_with ((with_reducible refine gate_dst (N := 35) rfl ?_); refine conv2 (B := w.heap.size) rfl (.tmp 34) rfl rfl HR.out ?_)
          go_ret
          refine ⟨?_, HB.out⟩
          have hk : k = 8 := by have := HI.out; omega
          rw [EM.out, hk, EL.out, HZ.out]
          rfl
        | succ k2 =>
          have c0 : decide (0 ≤ x5) = true := decide_eq_true (by rw [E5.out]; have := HI.out; omega)
          have hk : k = 0 ∨ k = 1 ∨ k = 2 ∨ k = 3 ∨ k = 4 ∨ k = 5 ∨ k = 6 ∨ k = 7 := by have := HI.out; omega
          rcases hk with rfl | rfl | rfl | rfl | rfl | rfl | rfl | rfl
          · have e5 := E5.out
            obtain rfl : x5 = 7 := by omega
            clear e5 c0
            go_wp2_with ((with_reducible refine gate_builtin (b := .append) (xs := #[.tmp 25, .tmp 32]) rfl ?_); at_builtin; refine append1 (B := w.heap.size) rfl (.tmp 25) (.tmp 32) rfl rfl (BRow.below HR.out (below_alloc (Below.refl _ _) _)) (be s.size 7) _ rfl ?ac100 ?aB100 ?al100 ?aK100; (case ac100 => rw [byteV, be_int, ← E8.out]; first | (simp; done) | trace_state); (case aB100 => exact Nat.le_trans (below_size HB.out) (by simp)); (case al100 => have := HL.out; omega); intro v33 w33 hr hb; have HR2 := Aside0.mk hr; replace HB := Aside0.mk (hb (below_alloc HB.out _)); clear hr hb HR)
            go_roundg k2
            case measure => have := HI.out; omega
            case rel => exact ⟨1, 6, rfl, ⟨by decide⟩, ⟨by have := HI.out; omega⟩, ⟨by rw [beL, ← List.append_assoc, ← EM.out]; exact HR2.out⟩, HB⟩
          · have e5 := E5.out
            obtain rfl : x5 = 6 := by omega
            clear e5 c0
            go_wp2_with ((with_reducible refine gate_builtin (b := .append) (xs := #[.tmp 25, .tmp 32]) rfl ?_); at_builtin; refine append1 (B := w.heap.size) rfl (.tmp 25) (.tmp 32) rfl rfl (BRow.below HR.out (below_alloc (Below.refl _ _) _)) (be s.size 6) _ rfl ?ac101 ?aB101 ?al101 ?aK101; (case ac101 => rw [byteV, be_int, ← E8.out]; first | (simp; done) | trace_state); (case aB101 => exact Nat.le_trans (below_size HB.out) (by simp)); (case al101 => have := HL.out; omega); intro v33 w33 hr hb; have HR2 := Aside0.mk hr; replace HB := Aside0.mk (hb (below_alloc HB.out _)); clear hr hb HR)
            go_roundg k2
            case measure => have := HI.out; omega
            case rel => exact ⟨2, 5, rfl, ⟨by decide⟩, ⟨by have := HI.out; omega⟩, ⟨by rw [beL, ← List.append_assoc, ← EM.out]; exact HR2.out⟩, HB⟩
          · have e5 := E5.out
            obtain rfl : x5 = 5 := by omega
            clear e5 c0
            go_wp2_with ((with_reducible refine gate_builtin (b := .append) (xs := #[.tmp 25, .tmp 32]) rfl ?_); at_builtin; refine append1 (B := w.heap.size) rfl (.tmp 25) (.tmp 32) rfl rfl (BRow.below HR.out (below_alloc (Below.refl _ _) _)) (be s.size 5) _ rfl ?ac102 ?aB102 ?al102 ?aK102; (case ac102 => rw [byteV, be_int, ← E8.out]; first | (simp; done) | trace_state); (case aB102 => exact Nat.le_trans (below_size HB.out) (by simp)); (case al102 => have := HL.out; omega); intro v33 w33 hr hb; have HR2 := Aside0.mk hr; replace HB := Aside0.mk (hb (below_alloc HB.out _)); clear hr hb HR)
            go_roundg k2
            case measure => have := HI.out; omega
            case rel => exact ⟨3, 4, rfl, ⟨by decide⟩, ⟨by have := HI.out; omega⟩, ⟨by rw [beL, ← List.append_assoc, ← EM.out]; exact HR2.out⟩, HB⟩
          · have e5 := E5.out
            obtain rfl : x5 = 4 := by omega
            clear e5 c0
            go_wp2_with ((with_reducible refine gate_builtin (b := .append) (xs := #[.tmp 25, .tmp 32]) rfl ?_); at_builtin; refine append1 (B := w.heap.size) rfl (.tmp 25) (.tmp 32) rfl rfl (BRow.below HR.out (below_alloc (Below.refl _ _) _)) (be s.size 4) _ rfl ?ac103 ?aB103 ?al103 ?aK103; (case ac103 => rw [byteV, be_int, ← E8.out]; first | (simp; done) | trace_state); (case aB103 => exact Nat.le_trans (below_size HB.out) (by simp)); (case al103 => have := HL.out; omega); intro v33 w33 hr hb; have HR2 := Aside0.mk hr; replace HB := Aside0.mk (hb (below_alloc HB.out _)); clear hr hb HR)
            go_roundg k2
            case measure => have := HI.out; omega
            case rel => exact ⟨4, 3, rfl, ⟨by decide⟩, ⟨by have := HI.out; omega⟩, ⟨by rw [beL, ← List.append_assoc, ← EM.out]; exact HR2.out⟩, HB⟩
          · have e5 := E5.out
            obtain rfl : x5 = 3 := by omega
            clear e5 c0
            go_wp2_with ((with_reducible refine gate_builtin (b := .append) (xs := #[.tmp 25, .tmp 32]) rfl ?_); at_builtin; refine append1 (B := w.heap.size) rfl (.tmp 25) (.tmp 32) rfl rfl (BRow.below HR.out (below_alloc (Below.refl _ _) _)) (be s.size 3) _ rfl ?ac104 ?aB104 ?al104 ?aK104; (case ac104 => rw [byteV, be_int, ← E8.out]; first | (simp; done) | trace_state); (case aB104 => exact Nat.le_trans (below_size HB.out) (by simp)); (case al104 => have := HL.out; omega); intro v33 w33 hr hb; have HR2 := Aside0.mk hr; replace HB := Aside0.mk (hb (below_alloc HB.out _)); clear hr hb HR)
            go_roundg k2
            case measure => have := HI.out; omega
            case rel => exact ⟨5, 2, rfl, ⟨by decide⟩, ⟨by have := HI.out; omega⟩, ⟨by rw [beL, ← List.append_assoc, ← EM.out]; exact HR2.out⟩, HB⟩
          · have e5 := E5.out
            obtain rfl : x5 = 2 := by omega
            clear e5 c0
            go_wp2_with ((with_reducible refine gate_builtin (b := .append) (xs := #[.tmp 25, .tmp 32]) rfl ?_); at_builtin; refine append1 (B := w.heap.size) rfl (.tmp 25) (.tmp 32) rfl rfl (BRow.below HR.out (below_alloc (Below.refl _ _) _)) (be s.size 2) _ rfl ?ac105 ?aB105 ?al105 ?aK105; (case ac105 => rw [byteV, be_int, ← E8.out]; first | (simp; done) | trace_state); (case aB105 => exact Nat.le_trans (below_size HB.out) (by simp)); (case al105 => have := HL.out; omega); intro v33 w33 hr hb; have HR2 := Aside0.mk hr; replace HB := Aside0.mk (hb (below_alloc HB.out _)); clear hr hb HR)
            go_roundg k2
            case measure => have := HI.out; omega
            case rel => exact ⟨6, 1, rfl, ⟨by decide⟩, ⟨by have := HI.out; omega⟩, ⟨by rw [beL, ← List.append_assoc, ← EM.out]; exact HR2.out⟩, HB⟩
          · have e5 := E5.out
            obtain rfl : x5 = 1 := by omega
            clear e5 c0
            go_wp2_with ((with_reducible refine gate_builtin (b := .append) (xs := #[.tmp 25, .tmp 32]) rfl ?_); at_builtin; refine append1 (B := w.heap.size) rfl (.tmp 25) (.tmp 32) rfl rfl (BRow.below HR.out (below_alloc (Below.refl _ _) _)) (be s.size 1) _ rfl ?ac106 ?aB106 ?al106 ?aK106; (case ac106 => rw [byteV, be_int, ← E8.out]; first | (simp; done) | trace_state); (case aB106 => exact Nat.le_trans (below_size HB.out) (by simp)); (case al106 => have := HL.out; omega); intro v33 w33 hr hb; have HR2 := Aside0.mk hr; replace HB := Aside0.mk (hb (below_alloc HB.out _)); clear hr hb HR)
            go_roundg k2
            case measure => have := HI.out; omega
            case rel => exact ⟨7, 0, rfl, ⟨by decide⟩, ⟨by have := HI.out; omega⟩, ⟨by rw [beL, ← List.append_assoc, ← EM.out]; exact HR2.out⟩, HB⟩
          · have e5 := E5.out
            obtain rfl : x5 = 0 := by omega
            clear e5 c0
            go_wp2_with ((with_reducible refine gate_builtin (b := .append) (xs := #[.tmp 25, .tmp 32]) rfl ?_); at_builtin; refine append1 (B := w.heap.size) rfl (.tmp 25) (.tmp 32) rfl rfl (BRow.below HR.out (below_alloc (Below.refl _ _) _)) (be s.size 0) _ rfl ?ac107 ?aB107 ?al107 ?aK107; (case ac107 => rw [byteV, be_int, ← E8.out]; first | (simp; done) | trace_state); (case aB107 => exact Nat.le_trans (below_size HB.out) (by simp)); (case al107 => have := HL.out; omega); intro v33 w33 hr hb; have HR2 := Aside0.mk hr; replace HB := Aside0.mk (hb (below_alloc HB.out _)); clear hr hb HR)
            go_roundg k2
            case measure => have := HI.out; omega
            case rel => exact ⟨8, -1, rfl, ⟨by decide⟩, ⟨by have := HI.out; omega⟩, ⟨by rw [beL, ← List.append_assoc, ← EM.out]; exact HR2.out⟩, HB⟩
    | succ k1 =>
      have c0 : ((l.length : Int) % 64 != 56) = true := by
        have h1 := HL.out
        have h2 := HI.out
        rw [bne_iff_ne]
        rw [h1]
        unfold padZ at h2
        omega
      have HZ : Aside0 (padZ s.size ≤ 64) := ⟨by unfold padZ; omega⟩
      go_wp2_with ((with_reducible refine gate_builtin (b := .append) (xs := #[.tmp 15, .tmp 16]) rfl ?_); at_builtin; refine append1 (B := w.heap.size) rfl (.tmp 15) (.tmp 16) rfl rfl (BRow.below HR.out (below_alloc (Below.refl _ _) _)) 0 _ rfl ?ac15 ?aB15 ?al15 ?aK15; (case ac15 => first | (simp [byteV]; done) | (rw [cell_alloc0_]; rfl)); (case aB15 => exact Nat.le_trans (below_size HB.out) (by simp)); (case al15 => have := HS.out; have := HL.out; have := HZ.out; have := HI.out; omega); intro v4 w4 hr hb; have HR2 := Aside0.mk hr; replace HB := Aside0.mk (hb (below_alloc HB.out _)); clear hr hb HR)
      go_roundg k1
      case measure => have := HI.out; omega
      case rel => exact ⟨j + 1, ⟨by rw [List.replicate_succ', ← List.append_assoc, ← EL.out]; exact HR2.out⟩, ⟨by have := HI.out; omega⟩, HB⟩
end Go.Proofs.Ytingghknjicpjaa.PS
