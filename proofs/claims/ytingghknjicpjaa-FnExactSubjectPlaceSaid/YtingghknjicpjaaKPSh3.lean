/-
spec.Digest: what it tells, of texts of at most 2097152 bytes.
-/
import Derived.Test.YtingghknjicpjaaKPSh2
namespace Go.Proofs.Ytingghknjicpjaa.PS
open Go.RowKit Go.Proofs.YtingghknjicpjaaW.PrintWords Go.Proofs.YtingghknjicpjaaW.PrintLast Go.Proofs.YtingghknjicpjaaW.PrintMore
set_option linter.unusedVariables false
def keysV : List Int := [1116352408, 1899447441, 3049323471, 3921009573, 961987163, 1508970993, 2453635748, 2870763221, 3624381080, 310598401, 607225278, 1426881987, 1925078388, 2162078206, 2614888103, 3248222580, 3835390401, 4022224774, 264347078, 604807628, 770255983, 1249150122, 1555081692, 1996064986, 2554220882, 2821834349, 2952996808, 3210313671, 3336571891, 3584528711, 113926993, 338241895, 666307205, 773529912, 1294757372, 1396182291, 1695183700, 1986661051, 2177026350, 2456956037, 2730485921, 2820302411, 3259730800, 3345764771, 3516065817, 3600352804, 4094571909, 275423344, 430227734, 506948616, 659060556, 883997877, 958139571, 1322822218, 1537002063, 1747873779, 1955562222, 2024104815, 2227730452, 2361852424, 2428436474, 2756734187, 3204031479, 3329325298]
theorem keysV_len : keysV.length = 64 := rfl
def keyParts : Array (Nat × Operand) := #[(0, .const (.int .u32 1116352408)), (1, .const (.int .u32 1899447441)), (2, .const (.int .u32 3049323471)), (3, .const (.int .u32 3921009573)), (4, .const (.int .u32 961987163)), (5, .const (.int .u32 1508970993)), (6, .const (.int .u32 2453635748)), (7, .const (.int .u32 2870763221)), (8, .const (.int .u32 3624381080)), (9, .const (.int .u32 310598401)), (10, .const (.int .u32 607225278)), (11, .const (.int .u32 1426881987)), (12, .const (.int .u32 1925078388)), (13, .const (.int .u32 2162078206)), (14, .const (.int .u32 2614888103)), (15, .const (.int .u32 3248222580)), (16, .const (.int .u32 3835390401)), (17, .const (.int .u32 4022224774)), (18, .const (.int .u32 264347078)), (19, .const (.int .u32 604807628)), (20, .const (.int .u32 770255983)), (21, .const (.int .u32 1249150122)), (22, .const (.int .u32 1555081692)), (23, .const (.int .u32 1996064986)), (24, .const (.int .u32 2554220882)), (25, .const (.int .u32 2821834349)), (26, .const (.int .u32 2952996808)), (27, .const (.int .u32 3210313671)), (28, .const (.int .u32 3336571891)), (29, .const (.int .u32 3584528711)), (30, .const (.int .u32 113926993)), (31, .const (.int .u32 338241895)), (32, .const (.int .u32 666307205)), (33, .const (.int .u32 773529912)), (34, .const (.int .u32 1294757372)), (35, .const (.int .u32 1396182291)), (36, .const (.int .u32 1695183700)), (37, .const (.int .u32 1986661051)), (38, .const (.int .u32 2177026350)), (39, .const (.int .u32 2456956037)), (40, .const (.int .u32 2730485921)), (41, .const (.int .u32 2820302411)), (42, .const (.int .u32 3259730800)), (43, .const (.int .u32 3345764771)), (44, .const (.int .u32 3516065817)), (45, .const (.int .u32 3600352804)), (46, .const (.int .u32 4094571909)), (47, .const (.int .u32 275423344)), (48, .const (.int .u32 430227734)), (49, .const (.int .u32 506948616)), (50, .const (.int .u32 659060556)), (51, .const (.int .u32 883997877)), (52, .const (.int .u32 958139571)), (53, .const (.int .u32 1322822218)), (54, .const (.int .u32 1537002063)), (55, .const (.int .u32 1747873779)), (56, .const (.int .u32 1955562222)), (57, .const (.int .u32 2024104815)), (58, .const (.int .u32 2227730452)), (59, .const (.int .u32 2361852424)), (60, .const (.int .u32 2428436474)), (61, .const (.int .u32 2756734187)), (62, .const (.int .u32 3204031479)), (63, .const (.int .u32 3329325298))]
theorem build_keys (a : Act) : Try.prog.built 28 (keyParts.map fun (i, x) => (i, a.eval x)).toList = some (u32s keysV) := by kernel_rfl
theorem buildK {ops : Array Oper} {rest : List Oper} {o : Oper} {a : Act} {w : World} {Q : Exit → Act → World → Prop} (hg : o.guard = none) (ho : o.op = .build 28 keyParts) (h : wpList Try.prog ops Q rest (a.put o.dst (.agg (u32s keysV))) w) : wpList Try.prog ops Q (o :: rest) a w := by
  refine wpList_build hg 28 keyParts ho (by rw [build_keys]; rfl) ?_
  rw [build_keys]
  exact h
theorem store28 {ops : Array Oper} {rest : List Oper} {o : Oper} {a : Act} {w : World} {Q : Exit → Act → World → Prop} (hgd : o.guard = none) (x y : Operand) (ho : o.op = .store 28 x y) (g : Nat) (hx : a.eval x = .pointer (some ⟨g, 0, none⟩)) (l l0 : List Int) (hy : a.eval y = .agg (u32s l)) (hl : l.length = 64) (hl0 : l0.length = 64)
    (hg : Aside0 (w.heap[g]? = some (.cells (u32s l0) 28 (0, 0)))) (h : ∀ w1, w1.heap[g]? = some (.cells (u32s l) 28 (0, 0)) → (∀ k, k ≠ g → w1.heap[k]? = w.heap[k]?) → (∀ {B : Nat} {w0 : World}, Below B w0 w → B ≤ g → Below B w0 w1) → wpList Try.prog ops Q rest (a.put o.dst undef) w1) : wpList Try.prog ops Q (o :: rest) a w :=
  wpList_store_row hgd 28 x y ho g (u32s l) hx hy 28 (u32s l0) hg.out (by rw [u32s_size, hl]; exact i28) (by rw [u32s_size, u32s_size, hl, hl0]) (u32s_one _) (h _ (setRow_heap w g (u32s l0) (u32s l) 28 (0, 0) hg.out) (fun k hk => setRow_other w g k (u32s l) hk) (fun hb hB => below_setRow hb hB (u32s l)))
theorem still_row {ops : Array Oper} {rest : List Oper} {o : Oper} {a : Act} {w : World} {Q : Act → Prop} (ty : TypeId) (n : Nat) (x : Operand) (ho : o.op = .load ty x) (hw : Region.wanted o (yielded ops a.tmps) = true) (g : Nat) (hx : a.eval x = .pointer (some ⟨g, 0, none⟩)) (l : List Int)
    (hg : w.heap[g]? = some (.cells (u32s l) ty (0, 0))) (hu : Try.prog.underlying ty = some (.array n 25)) (hi : (Try.prog.info? ty).map (·.size) = some l.length) (h : wpStill Try.prog ops w Q rest (a.put o.dst (.agg (u32s l)))) : wpStill Try.prog ops w Q (o :: rest) a := by
  refine wpStill_step fun K hK => ?_
  rw [if_pos hw]
  have hr : (execOp a.eval o).run Try.prog w = .ok (.value (.agg (u32s l))) w := by
    unfold execOp
    simp only [ho, hx, Instr.loadAt, Instr.sureAddr, Sem.run_bind, Sem.run_pure, Result.andThen_ok, run_loadVar_row w g ty ty (u32s l) (0, 0) (.array n 25) hg hu rfl (by rw [u32s_size]; exact hi)]
  unfold Oper.still
  rw [hr, Oper.stillUpon_value]
  exact hK _ h
set_option maxHeartbeats 8000000 in
set_option maxRecDepth 100000 in
theorem spec_l03Keys.calls (w : World) : Calls Try.prog 9 #[] w fun e w' => e = .returned (.agg (u32s keysV)) ∧ Below w.heap.size w w' := by
  have HB := Aside0.mk (Below.refl w.heap.size w)
  go_enter Try.func9, Try.ntmps9
  go_wp2_with (first
    | ((with_reducible refine gate_dst (N := 0) rfl ?_); refine box_event ?hg0 (N := 0) ?hd0 (cs := u32s zero64) (t := 28) ?hr0 ?_; (case hd0 => rfl); (case hg0 => rfl); (case hr0 => exact alloc28 _ _ rfl _); intro g0 hg0 w0 hb hB; have B0 := Aside0.mk hb; have G0 : Aside0 (w.heap.size ≤ g0) := ⟨by rw [hg0]; exact below_size HB.out⟩; replace HB := Aside0.mk (below_step HB.out hB); clear hb hB hg0)
    | ((with_reducible refine gate_dst (N := 1) rfl ?_); refine buildK rfl rfl ?_)
    | ((with_reducible refine gate_store (t := 28) (p := 0) rfl ?_); refine store28 rfl (.tmp 0) (.tmp 1) rfl g0 rfl keysV zero64 rfl keysV_len zero64_len B0 ?_; intro wz hb ho hB; replace B0 := Aside0.mk hb; replace HB := Aside0.mk (hB HB.out G0.out); clear hb ho hB))
  refine bodyPost_ret (results_cell_row rfl _ _ g0 28 (u32s keysV) (0, 0) (.array 64 25) rfl B0.out und28 rfl (by rw [u32s_size, keysV_len]; exact i28)) rfl ⟨rfl, HB.out⟩
def padB (s : ByteArray) : ByteArray := ⟨(padS s).toArray⟩
def stD (p : ByteArray) : Nat → List Int
  | 0 => first8
  | i + 1 => blockV (stD p i) keysV (p.extract (64 * i) (64 * i + 64))
theorem blockV_len (hs ks : List Int) (b : ByteArray) : (blockV hs ks b).length = hs.length := hD_len _ _ _
theorem stD_len (p : ByteArray) : ∀ i, (stD p i).length = 8
  | 0 => rfl
  | i + 1 => by rw [stD, blockV_len, stD_len p i]
def oD (S : List Int) : Nat → List Int
  | 0 => List.replicate 32 0
  | i + 1 => ((((oD S i).set (4 * i) (rd S (i : Int) / 16777216 % 256)).set (4 * i + 1) (rd S (i : Int) / 65536 % 256)).set (4 * i + 2) (rd S (i : Int) / 256 % 256)).set (4 * i + 3) (rd S (i : Int) % 256)
theorem oD_len (S : List Int) : ∀ i, (oD S i).length = 32
  | 0 => List.length_replicate
  | i + 1 => by simp only [oD, List.length_set, oD_len S i]
def nbl (s : ByteArray) : Nat := (padB s).size / 64
def digS (s : ByteArray) : ByteArray := strOfNums (oD (stD (padB s) (nbl s)) 8)
theorem padS_len (s : ByteArray) : (padS s).length = s.size + 1 + padZ s.size + 8 := by
  unfold padS
  rw [List.length_append, len_pad]
  rfl
theorem padB_size (s : ByteArray) : (padB s).size = 64 * nbl s := by
  have h1 : (padB s).size = (padS s).length := by
    show (padS s).toArray.size = _
    simp
  have h2 := padS_len s
  unfold nbl
  rw [h1, h2]
  unfold padZ
  omega
theorem ext_size (p : ByteArray) (i j : Nat) (h : j ≤ p.size) : (p.extract i j).size = j - i := by
  rw [ByteArray.size_extract]
  omega
set_option maxHeartbeats 8000000 in
set_option maxRecDepth 100000 in
theorem digest_calls (s : ByteArray) (hs : s.size ≤ 2097152) (w : World) : Calls Try.prog 6 #[.string s] w fun e w' => e = .returned (.string (digS s)) ∧ Below w.heap.size w w' := by
  have HB := Aside0.mk (Below.refl w.heap.size w)
  have HS := Aside0.mk hs
  clear hs
  go_enter Try.func6, Try.ntmps6
  go_wp2_with (first
    | ((with_reducible refine gate_callee (f := 8) rfl ?_); refine goesC_ (some 9) Try.func8 #[] ?_; (with_reducible refine (spec_l03First.calls _).mono ?_); rintro e w' ⟨rfl, hb⟩; refine ⟨_, rfl, ?_⟩; replace HB := Aside0.mk (below_step HB.out hb); clear hb)
    | ((with_reducible refine gate_dst (N := 3) rfl ?_); refine box_event ?hg3 (N := 3) ?hd3 (cs := u32s zero8) (t := 26) ?hr3 ?_; (case hd3 => rfl); (case hg3 => rfl); (case hr3 => first | (go_simp; done) | (go_simp; rfl)); intro g3 hg3 w3 hb hB; have B3 := Aside0.mk hb; have G3 : Aside0 (w.heap.size ≤ g3) := ⟨by rw [hg3]; exact below_size HB.out⟩; replace HB := Aside0.mk (below_step HB.out hB); clear hb hB hg3)
    | ((with_reducible refine gate_store (t := 26) (p := 3) rfl ?_); refine store26 rfl (.tmp 3) (.tmp 9) rfl g3 rfl first8 zero8 rfl rfl rfl B3 ?_; intro wz hb ho hB; replace B3 := Aside0.mk hb; replace HB := Aside0.mk (hB HB.out G3.out); clear hb ho hB)
    | ((with_reducible refine gate_callee (f := 9) rfl ?_); refine goesC_ (some 10) Try.func9 #[] ?_; (with_reducible refine (spec_l03Keys.calls _).mono ?_); rintro e w' ⟨rfl, hb⟩; refine ⟨_, rfl, ?_⟩; replace B3 := Aside0.mk (blk_below B3.out hb); replace HB := Aside0.mk (below_step HB.out hb); clear hb)
    | ((with_reducible refine gate_dst (N := 4) rfl ?_); refine box_event ?hg4 (N := 4) ?hd4 (cs := u32s zero64) (t := 28) ?hr4 ?_; (case hd4 => rfl); (case hg4 => rfl); (case hr4 => exact alloc28 _ _ rfl _); intro g4 hg4 w4 hb hB; have N34 : Aside0 (g3 < g4) := ⟨by rw [hg4]; exact blk_lt B3.out⟩; replace B3 := Aside0.mk (blk_below B3.out hB); have B4 := Aside0.mk hb; have G4 : Aside0 (w.heap.size ≤ g4) := ⟨by rw [hg4]; exact below_size HB.out⟩; replace HB := Aside0.mk (below_step HB.out hB); clear hb hB hg4)
    | ((with_reducible refine gate_store (t := 28) (p := 4) rfl ?_); refine store28 rfl (.tmp 4) (.tmp 10) rfl g4 rfl keysV zero64 rfl keysV_len zero64_len B4 ?_; intro wz hb ho hB; replace B3 := Aside0.mk ((ho g3 (by have := N34.out; omega)).trans B3.out); replace B4 := Aside0.mk hb; replace HB := Aside0.mk (hB HB.out G4.out); clear hb ho hB)
    | ((with_reducible refine gate_callee (f := 10) rfl ?_); refine goesC_ (some 12) Try.func10 #[.string s] ?_; (with_reducible refine (padtext_calls s (by have := HS.out; omega) _).mono ?_); rintro e w' ⟨rfl, hb⟩; refine ⟨_, rfl, ?_⟩; replace B3 := Aside0.mk (blk_below B3.out hb); replace B4 := Aside0.mk (blk_below B4.out hb); replace HB := Aside0.mk (below_step HB.out hb); clear hb))
  have HP := Aside0.mk (padB_size s)
  obtain ⟨p, hp⟩ : ∃ p, p = padB s := ⟨_, rfl⟩
  have EP := Aside0.mk hp
  rw [← hp] at HP
  rw [show ({ data := (padS s).toArray } : ByteArray) = p from hp.symm]
  clear hp
  have HN : Aside0 (nbl s ≤ 40000) := ⟨by have h1 := HS.out; have h2 := padS_len s; have h3 : (padB s).size = (padS s).length := by { show (padS s).toArray.size = _; simp }; unfold nbl; rw [h3, h2]; unfold padZ; omega⟩
  go_loopg [6] (nbl s) (fun kq v6 w' => ∃ (i : Nat) (x6 : Int), v6 = .int .i64 x6 ∧ Aside0 (x6 = ((64 * i : Nat) : Int)) ∧ Aside0 (i + kq = nbl s) ∧ Aside0 (w'.heap[g3]? = some (.cells (u32s (stD p i)) 26 (0, 0))) ∧ Aside0 (w'.heap[g4]? = some (.cells (u32s keysV) 28 (0, 0))) ∧ Aside0 (Below w.heap.size w w'))
  case atStart => exact ⟨0, 0, rfl, ⟨rfl⟩, ⟨Nat.zero_add _⟩, B3, B4, HB⟩
  case round =>
    clear B3 B4 HB
    obtain ⟨i, x6, rfl, E6, HI, B3, B4, HB⟩ := hrel
    cases gk with
    | zero =>
      have c0 : decide (x6 < (p.size : Int)) = false := decide_eq_false (by rw [E6.out, HP.out]; have := HI.out; omega)
      have HT := Aside0.mk (stD_len p i)
      obtain ⟨T, hT⟩ : ∃ T, T = stD p i := ⟨_, rfl⟩
      have ET : Aside0 (T = stD p (nbl s)) := ⟨by rw [hT]; have := HI.out; rw [show i = nbl s by omega]⟩
      rw [← hT] at B3 HT
      clear hT
      go_wp2_with ((with_reducible refine gate_dst (N := 27) rfl ?_); refine Kd.R_make (Kd.int .u8) _ 5 rfl (N := 27) rfl 31 _ _ rfl 32 rfl rfl Try.underlying31 (.int .u8 0) 1 info5 rfl (by decide) (by omega) 0 (ok := fun _ => True) (okp := fun _ => True) rfl (fun _ hk => hk) trivial (by omega) (by omega) (Below.refl _ _) (Nat.le_refl _) ?_; intro vo w7 ho8 hb hg_ hnew_; clear hg_ hnew_; (try simp only [Int.reduceToNat] at ho8); have HO := Aside0.mk (Kd.R_lower ho8 (below_size HB.out)); replace B3 := Aside0.mk (blk_below B3.out hb); replace HB := Aside0.mk (below_step HB.out hb); clear hb ho8)
      clear E6 HI B4 c0
      go_loopg [8] 8 (fun kq v8 w' => ∃ (i : Nat) (x8 : Int), v8 = .int .i64 x8 ∧ Aside0 (x8 = (i : Int)) ∧ Aside0 (i + kq = 8) ∧ Aside0 (w'.heap[g3]? = some (.cells (u32s T) 26 (0, 0))) ∧ Aside0 (Kd.R (Kd.int .u8) 5 w' w.heap.size (fun _ => True) vo (oD T i)) ∧ Aside0 (Below w.heap.size w w'))
      case atStart => exact ⟨0, 0, rfl, ⟨rfl⟩, ⟨rfl⟩, B3, HO, HB⟩
      case round =>
        clear B3 HO HB
        obtain ⟨i, x8, rfl, E8, HI, B3, HO, HB⟩ := hrel
        cases gk with
        | zero =>
          have c0 : decide (x8 < 8) = false := decide_eq_false (by rw [E8.out]; have := HI.out; omega)
          have hi : i = 8 := by have := HI.out; omega
          have ED : digS s = strOfNums (oD T 8) := by rw [ET.out, EP.out]; rfl
          subst hi
          have hcv := own_string (P := Try.prog) Try.underlying31 Try.underlying5 Try.underlying9 (Kd.own_of_R HO.out)
          go_wp2
          go_ret
          exact ⟨rfl, HB.out⟩
        | succ k2 =>
          have c0 : decide (x8 < 8) = true := decide_eq_true (by rw [E8.out]; have := HI.out; omega)
          have HL := Aside0.mk (oD_len T i)
          obtain ⟨O, hO⟩ : ∃ O, O = oD T i := ⟨_, rfl⟩
          have EO := Aside0.mk hO
          rw [← hO] at HO HL
          clear hO
          obtain ⟨go, co, eo, gb, gl, cl, HG⟩ := Kd.R_form HO.out (by rw [HL.out]; omega)
          (first | cases eo | (injection eo with ea_ en_ ec_; (first | subst ea_ | (injection ea_ with ea_; subst ea_)); subst ec_; clear en_))
          have GB := Aside0.mk gb
          clear gb gl cl HG
          have NO : Aside0 (go ≠ g3) := ⟨Kd.own_blk (Kd.R_ne HO.out B3.out (by decide))⟩
          have hk : i = 0 ∨ i = 1 ∨ i = 2 ∨ i = 3 ∨ i = 4 ∨ i = 5 ∨ i = 6 ∨ i = 7 := by have := HI.out; omega
          rcases hk with rfl | rfl | rfl | rfl | rfl | rfl | rfl | rfl
          · have e8 := E8.out
            obtain rfl : x8 = 0 := by omega
            clear e8 c0
            have hc3 := u_at B3 0 (by rw [HT.out]; omega)
            obtain ⟨hx0, hf0⟩ := Kd.R_celln 0 HO.out (0 : Int) (by omega) (by rw [HL.out]; omega)
            obtain ⟨hx1, hf1⟩ := Kd.R_celln 0 HO.out (1 : Int) (by omega) (by rw [HL.out]; omega)
            obtain ⟨hx2, hf2⟩ := Kd.R_celln 0 HO.out (2 : Int) (by omega) (by rw [HL.out]; omega)
            obtain ⟨hx3, hf3⟩ := Kd.R_celln 0 HO.out (3 : Int) (by omega) (by rw [HL.out]; omega)
            have hq0 := eq_true (show (0 : Int) < (O.length : Int) by rw [HL.out]; omega)
            have hq1 := eq_true (show (1 : Int) < (O.length : Int) by rw [HL.out]; omega)
            have hq2 := eq_true (show (2 : Int) < (O.length : Int) by rw [HL.out]; omega)
            have hq3 := eq_true (show (3 : Int) < (O.length : Int) by rw [HL.out]; omega)
            have hqn := eq_true (show 0 < O.length by rw [HL.out]; omega)
            have hne1 := NO.out
            have hne2 : g3 ≠ go := fun e => NO.out e.symm
            (try simp only [Int.reduceToNat] at hx0 hf0 hx1 hf1 hx2 hf2 hx3 hf3)
            go_wp2
            go_roundg k2
            case measure => have := HI.out; omega
            case rel => exact ⟨1, 1, rfl, ⟨rfl⟩, ⟨by have := HI.out; omega⟩, (u_far (u_far (u_far (u_far B3 0 _ (fun e => NO.out e.symm)) 1 _ (fun e => NO.out e.symm)) 2 _ (fun e => NO.out e.symm)) 3 _ (fun e => NO.out e.symm)), ⟨by rw [oD, ← EO.out]; exact (Kd.R_putg (Kd.R_putg (Kd.R_putg (Kd.R_putg HO.out (0 : Int) (rd T (0 : Int) / 16777216 % 256)).1 (1 : Int) (rd T (0 : Int) / 65536 % 256)).1 (2 : Int) (rd T (0 : Int) / 256 % 256)).1 (3 : Int) (rd T (0 : Int) % 256)).1⟩, ⟨(below_set (below_set (below_set (below_set HB.out GB.out) GB.out) GB.out) GB.out)⟩⟩
          · have e8 := E8.out
            obtain rfl : x8 = 1 := by omega
            clear e8 c0
            have hc3 := u_at B3 1 (by rw [HT.out]; omega)
            obtain ⟨hx0, hf0⟩ := Kd.R_celln 0 HO.out (4 : Int) (by omega) (by rw [HL.out]; omega)
            obtain ⟨hx1, hf1⟩ := Kd.R_celln 0 HO.out (5 : Int) (by omega) (by rw [HL.out]; omega)
            obtain ⟨hx2, hf2⟩ := Kd.R_celln 0 HO.out (6 : Int) (by omega) (by rw [HL.out]; omega)
            obtain ⟨hx3, hf3⟩ := Kd.R_celln 0 HO.out (7 : Int) (by omega) (by rw [HL.out]; omega)
            have hq0 := eq_true (show (4 : Int) < (O.length : Int) by rw [HL.out]; omega)
            have hq1 := eq_true (show (5 : Int) < (O.length : Int) by rw [HL.out]; omega)
            have hq2 := eq_true (show (6 : Int) < (O.length : Int) by rw [HL.out]; omega)
            have hq3 := eq_true (show (7 : Int) < (O.length : Int) by rw [HL.out]; omega)
            have hqn := eq_true (show 0 < O.length by rw [HL.out]; omega)
            have hne1 := NO.out
            have hne2 : g3 ≠ go := fun e => NO.out e.symm
            (try simp only [Int.reduceToNat] at hx0 hf0 hx1 hf1 hx2 hf2 hx3 hf3)
            go_wp2
            go_roundg k2
            case measure => have := HI.out; omega
            case rel => exact ⟨2, 2, rfl, ⟨rfl⟩, ⟨by have := HI.out; omega⟩, (u_far (u_far (u_far (u_far B3 4 _ (fun e => NO.out e.symm)) 5 _ (fun e => NO.out e.symm)) 6 _ (fun e => NO.out e.symm)) 7 _ (fun e => NO.out e.symm)), ⟨by rw [oD, ← EO.out]; exact (Kd.R_putg (Kd.R_putg (Kd.R_putg (Kd.R_putg HO.out (4 : Int) (rd T (1 : Int) / 16777216 % 256)).1 (5 : Int) (rd T (1 : Int) / 65536 % 256)).1 (6 : Int) (rd T (1 : Int) / 256 % 256)).1 (7 : Int) (rd T (1 : Int) % 256)).1⟩, ⟨(below_set (below_set (below_set (below_set HB.out GB.out) GB.out) GB.out) GB.out)⟩⟩
          · have e8 := E8.out
            obtain rfl : x8 = 2 := by omega
            clear e8 c0
            have hc3 := u_at B3 2 (by rw [HT.out]; omega)
            obtain ⟨hx0, hf0⟩ := Kd.R_celln 0 HO.out (8 : Int) (by omega) (by rw [HL.out]; omega)
            obtain ⟨hx1, hf1⟩ := Kd.R_celln 0 HO.out (9 : Int) (by omega) (by rw [HL.out]; omega)
            obtain ⟨hx2, hf2⟩ := Kd.R_celln 0 HO.out (10 : Int) (by omega) (by rw [HL.out]; omega)
            obtain ⟨hx3, hf3⟩ := Kd.R_celln 0 HO.out (11 : Int) (by omega) (by rw [HL.out]; omega)
            have hq0 := eq_true (show (8 : Int) < (O.length : Int) by rw [HL.out]; omega)
            have hq1 := eq_true (show (9 : Int) < (O.length : Int) by rw [HL.out]; omega)
            have hq2 := eq_true (show (10 : Int) < (O.length : Int) by rw [HL.out]; omega)
            have hq3 := eq_true (show (11 : Int) < (O.length : Int) by rw [HL.out]; omega)
            have hqn := eq_true (show 0 < O.length by rw [HL.out]; omega)
            have hne1 := NO.out
            have hne2 : g3 ≠ go := fun e => NO.out e.symm
            (try simp only [Int.reduceToNat] at hx0 hf0 hx1 hf1 hx2 hf2 hx3 hf3)
            go_wp2
            go_roundg k2
            case measure => have := HI.out; omega
            case rel => exact ⟨3, 3, rfl, ⟨rfl⟩, ⟨by have := HI.out; omega⟩, (u_far (u_far (u_far (u_far B3 8 _ (fun e => NO.out e.symm)) 9 _ (fun e => NO.out e.symm)) 10 _ (fun e => NO.out e.symm)) 11 _ (fun e => NO.out e.symm)), ⟨by rw [oD, ← EO.out]; exact (Kd.R_putg (Kd.R_putg (Kd.R_putg (Kd.R_putg HO.out (8 : Int) (rd T (2 : Int) / 16777216 % 256)).1 (9 : Int) (rd T (2 : Int) / 65536 % 256)).1 (10 : Int) (rd T (2 : Int) / 256 % 256)).1 (11 : Int) (rd T (2 : Int) % 256)).1⟩, ⟨(below_set (below_set (below_set (below_set HB.out GB.out) GB.out) GB.out) GB.out)⟩⟩
          · have e8 := E8.out
            obtain rfl : x8 = 3 := by omega
            clear e8 c0
            have hc3 := u_at B3 3 (by rw [HT.out]; omega)
            obtain ⟨hx0, hf0⟩ := Kd.R_celln 0 HO.out (12 : Int) (by omega) (by rw [HL.out]; omega)
            obtain ⟨hx1, hf1⟩ := Kd.R_celln 0 HO.out (13 : Int) (by omega) (by rw [HL.out]; omega)
            obtain ⟨hx2, hf2⟩ := Kd.R_celln 0 HO.out (14 : Int) (by omega) (by rw [HL.out]; omega)
            obtain ⟨hx3, hf3⟩ := Kd.R_celln 0 HO.out (15 : Int) (by omega) (by rw [HL.out]; omega)
            have hq0 := eq_true (show (12 : Int) < (O.length : Int) by rw [HL.out]; omega)
            have hq1 := eq_true (show (13 : Int) < (O.length : Int) by rw [HL.out]; omega)
            have hq2 := eq_true (show (14 : Int) < (O.length : Int) by rw [HL.out]; omega)
            have hq3 := eq_true (show (15 : Int) < (O.length : Int) by rw [HL.out]; omega)
            have hqn := eq_true (show 0 < O.length by rw [HL.out]; omega)
            have hne1 := NO.out
            have hne2 : g3 ≠ go := fun e => NO.out e.symm
            (try simp only [Int.reduceToNat] at hx0 hf0 hx1 hf1 hx2 hf2 hx3 hf3)
            go_wp2
            go_roundg k2
            case measure => have := HI.out; omega
            case rel => exact ⟨4, 4, rfl, ⟨rfl⟩, ⟨by have := HI.out; omega⟩, (u_far (u_far (u_far (u_far B3 12 _ (fun e => NO.out e.symm)) 13 _ (fun e => NO.out e.symm)) 14 _ (fun e => NO.out e.symm)) 15 _ (fun e => NO.out e.symm)), ⟨by rw [oD, ← EO.out]; exact (Kd.R_putg (Kd.R_putg (Kd.R_putg (Kd.R_putg HO.out (12 : Int) (rd T (3 : Int) / 16777216 % 256)).1 (13 : Int) (rd T (3 : Int) / 65536 % 256)).1 (14 : Int) (rd T (3 : Int) / 256 % 256)).1 (15 : Int) (rd T (3 : Int) % 256)).1⟩, ⟨(below_set (below_set (below_set (below_set HB.out GB.out) GB.out) GB.out) GB.out)⟩⟩
          · have e8 := E8.out
            obtain rfl : x8 = 4 := by omega
            clear e8 c0
            have hc3 := u_at B3 4 (by rw [HT.out]; omega)
            obtain ⟨hx0, hf0⟩ := Kd.R_celln 0 HO.out (16 : Int) (by omega) (by rw [HL.out]; omega)
            obtain ⟨hx1, hf1⟩ := Kd.R_celln 0 HO.out (17 : Int) (by omega) (by rw [HL.out]; omega)
            obtain ⟨hx2, hf2⟩ := Kd.R_celln 0 HO.out (18 : Int) (by omega) (by rw [HL.out]; omega)
            obtain ⟨hx3, hf3⟩ := Kd.R_celln 0 HO.out (19 : Int) (by omega) (by rw [HL.out]; omega)
            have hq0 := eq_true (show (16 : Int) < (O.length : Int) by rw [HL.out]; omega)
            have hq1 := eq_true (show (17 : Int) < (O.length : Int) by rw [HL.out]; omega)
            have hq2 := eq_true (show (18 : Int) < (O.length : Int) by rw [HL.out]; omega)
            have hq3 := eq_true (show (19 : Int) < (O.length : Int) by rw [HL.out]; omega)
            have hqn := eq_true (show 0 < O.length by rw [HL.out]; omega)
            have hne1 := NO.out
            have hne2 : g3 ≠ go := fun e => NO.out e.symm
            (try simp only [Int.reduceToNat] at hx0 hf0 hx1 hf1 hx2 hf2 hx3 hf3)
            go_wp2
            go_roundg k2
            case measure => have := HI.out; omega
            case rel => exact ⟨5, 5, rfl, ⟨rfl⟩, ⟨by have := HI.out; omega⟩, (u_far (u_far (u_far (u_far B3 16 _ (fun e => NO.out e.symm)) 17 _ (fun e => NO.out e.symm)) 18 _ (fun e => NO.out e.symm)) 19 _ (fun e => NO.out e.symm)), ⟨by rw [oD, ← EO.out]; exact (Kd.R_putg (Kd.R_putg (Kd.R_putg (Kd.R_putg HO.out (16 : Int) (rd T (4 : Int) / 16777216 % 256)).1 (17 : Int) (rd T (4 : Int) / 65536 % 256)).1 (18 : Int) (rd T (4 : Int) / 256 % 256)).1 (19 : Int) (rd T (4 : Int) % 256)).1⟩, ⟨(below_set (below_set (below_set (below_set HB.out GB.out) GB.out) GB.out) GB.out)⟩⟩
          · have e8 := E8.out
            obtain rfl : x8 = 5 := by omega
            clear e8 c0
            have hc3 := u_at B3 5 (by rw [HT.out]; omega)
            obtain ⟨hx0, hf0⟩ := Kd.R_celln 0 HO.out (20 : Int) (by omega) (by rw [HL.out]; omega)
            obtain ⟨hx1, hf1⟩ := Kd.R_celln 0 HO.out (21 : Int) (by omega) (by rw [HL.out]; omega)
            obtain ⟨hx2, hf2⟩ := Kd.R_celln 0 HO.out (22 : Int) (by omega) (by rw [HL.out]; omega)
            obtain ⟨hx3, hf3⟩ := Kd.R_celln 0 HO.out (23 : Int) (by omega) (by rw [HL.out]; omega)
            have hq0 := eq_true (show (20 : Int) < (O.length : Int) by rw [HL.out]; omega)
            have hq1 := eq_true (show (21 : Int) < (O.length : Int) by rw [HL.out]; omega)
            have hq2 := eq_true (show (22 : Int) < (O.length : Int) by rw [HL.out]; omega)
            have hq3 := eq_true (show (23 : Int) < (O.length : Int) by rw [HL.out]; omega)
            have hqn := eq_true (show 0 < O.length by rw [HL.out]; omega)
            have hne1 := NO.out
            have hne2 : g3 ≠ go := fun e => NO.out e.symm
            (try simp only [Int.reduceToNat] at hx0 hf0 hx1 hf1 hx2 hf2 hx3 hf3)
            go_wp2
            go_roundg k2
            case measure => have := HI.out; omega
            case rel => exact ⟨6, 6, rfl, ⟨rfl⟩, ⟨by have := HI.out; omega⟩, (u_far (u_far (u_far (u_far B3 20 _ (fun e => NO.out e.symm)) 21 _ (fun e => NO.out e.symm)) 22 _ (fun e => NO.out e.symm)) 23 _ (fun e => NO.out e.symm)), ⟨by rw [oD, ← EO.out]; exact (Kd.R_putg (Kd.R_putg (Kd.R_putg (Kd.R_putg HO.out (20 : Int) (rd T (5 : Int) / 16777216 % 256)).1 (21 : Int) (rd T (5 : Int) / 65536 % 256)).1 (22 : Int) (rd T (5 : Int) / 256 % 256)).1 (23 : Int) (rd T (5 : Int) % 256)).1⟩, ⟨(below_set (below_set (below_set (below_set HB.out GB.out) GB.out) GB.out) GB.out)⟩⟩
          · have e8 := E8.out
            obtain rfl : x8 = 6 := by omega
            clear e8 c0
            have hc3 := u_at B3 6 (by rw [HT.out]; omega)
            obtain ⟨hx0, hf0⟩ := Kd.R_celln 0 HO.out (24 : Int) (by omega) (by rw [HL.out]; omega)
            obtain ⟨hx1, hf1⟩ := Kd.R_celln 0 HO.out (25 : Int) (by omega) (by rw [HL.out]; omega)
            obtain ⟨hx2, hf2⟩ := Kd.R_celln 0 HO.out (26 : Int) (by omega) (by rw [HL.out]; omega)
            obtain ⟨hx3, hf3⟩ := Kd.R_celln 0 HO.out (27 : Int) (by omega) (by rw [HL.out]; omega)
            have hq0 := eq_true (show (24 : Int) < (O.length : Int) by rw [HL.out]; omega)
            have hq1 := eq_true (show (25 : Int) < (O.length : Int) by rw [HL.out]; omega)
            have hq2 := eq_true (show (26 : Int) < (O.length : Int) by rw [HL.out]; omega)
            have hq3 := eq_true (show (27 : Int) < (O.length : Int) by rw [HL.out]; omega)
            have hqn := eq_true (show 0 < O.length by rw [HL.out]; omega)
            have hne1 := NO.out
            have hne2 : g3 ≠ go := fun e => NO.out e.symm
            (try simp only [Int.reduceToNat] at hx0 hf0 hx1 hf1 hx2 hf2 hx3 hf3)
            go_wp2
            go_roundg k2
            case measure => have := HI.out; omega
            case rel => exact ⟨7, 7, rfl, ⟨rfl⟩, ⟨by have := HI.out; omega⟩, (u_far (u_far (u_far (u_far B3 24 _ (fun e => NO.out e.symm)) 25 _ (fun e => NO.out e.symm)) 26 _ (fun e => NO.out e.symm)) 27 _ (fun e => NO.out e.symm)), ⟨by rw [oD, ← EO.out]; exact (Kd.R_putg (Kd.R_putg (Kd.R_putg (Kd.R_putg HO.out (24 : Int) (rd T (6 : Int) / 16777216 % 256)).1 (25 : Int) (rd T (6 : Int) / 65536 % 256)).1 (26 : Int) (rd T (6 : Int) / 256 % 256)).1 (27 : Int) (rd T (6 : Int) % 256)).1⟩, ⟨(below_set (below_set (below_set (below_set HB.out GB.out) GB.out) GB.out) GB.out)⟩⟩
          · have e8 := E8.out
            obtain rfl : x8 = 7 := by omega
            clear e8 c0
            have hc3 := u_at B3 7 (by rw [HT.out]; omega)
            obtain ⟨hx0, hf0⟩ := Kd.R_celln 0 HO.out (28 : Int) (by omega) (by rw [HL.out]; omega)
            obtain ⟨hx1, hf1⟩ := Kd.R_celln 0 HO.out (29 : Int) (by omega) (by rw [HL.out]; omega)
            obtain ⟨hx2, hf2⟩ := Kd.R_celln 0 HO.out (30 : Int) (by omega) (by rw [HL.out]; omega)
            obtain ⟨hx3, hf3⟩ := Kd.R_celln 0 HO.out (31 : Int) (by omega) (by rw [HL.out]; omega)
            have hq0 := eq_true (show (28 : Int) < (O.length : Int) by rw [HL.out]; omega)
            have hq1 := eq_true (show (29 : Int) < (O.length : Int) by rw [HL.out]; omega)
            have hq2 := eq_true (show (30 : Int) < (O.length : Int) by rw [HL.out]; omega)
            have hq3 := eq_true (show (31 : Int) < (O.length : Int) by rw [HL.out]; omega)
            have hqn := eq_true (show 0 < O.length by rw [HL.out]; omega)
            have hne1 := NO.out
            have hne2 : g3 ≠ go := fun e => NO.out e.symm
            (try simp only [Int.reduceToNat] at hx0 hf0 hx1 hf1 hx2 hf2 hx3 hf3)
            go_wp2
            go_roundg k2
            case measure => have := HI.out; omega
            case rel => exact ⟨8, 8, rfl, ⟨rfl⟩, ⟨by have := HI.out; omega⟩, (u_far (u_far (u_far (u_far B3 28 _ (fun e => NO.out e.symm)) 29 _ (fun e => NO.out e.symm)) 30 _ (fun e => NO.out e.symm)) 31 _ (fun e => NO.out e.symm)), ⟨by rw [oD, ← EO.out]; exact (Kd.R_putg (Kd.R_putg (Kd.R_putg (Kd.R_putg HO.out (28 : Int) (rd T (7 : Int) / 16777216 % 256)).1 (29 : Int) (rd T (7 : Int) / 65536 % 256)).1 (30 : Int) (rd T (7 : Int) / 256 % 256)).1 (31 : Int) (rd T (7 : Int) % 256)).1⟩, ⟨(below_set (below_set (below_set (below_set HB.out GB.out) GB.out) GB.out) GB.out)⟩⟩
    | succ k1 =>
      have c0 : decide (x6 < (p.size : Int)) = true := decide_eq_true (by rw [E6.out, HP.out]; have := HI.out; omega)
      have HL := Aside0.mk (stD_len p i)
      obtain ⟨S, hS⟩ : ∃ S, S = stD p i := ⟨_, rfl⟩
      have ES := Aside0.mk hS
      rw [← hS] at B3 HL
      clear hS
      obtain ⟨j6, hj6⟩ : ∃ j : Int, IntKind.i64.wrap (x6 + 64) = j := ⟨_, rfl⟩
      have hj6w : wrap64 (x6 + 64) = j6 := (i64_w _).symm.trans hj6
      have EJ : Aside0 (j6 = ((64 * i + 64 : Nat) : Int)) := ⟨by rw [← hj6w, E6.out]; have := HI.out; have := HN.out; unfold wrap64; omega⟩
      have hp0 := eq_true (show (0 : Int) ≤ x6 by rw [E6.out]; omega)
      have hp1 := eq_true (show x6 ≤ j6 by rw [E6.out, EJ.out]; omega)
      have hp2 := eq_true (show j6 ≤ (p.size : Int) by rw [EJ.out, HP.out]; have := HI.out; omega)
      have HBS : Aside0 ((p.extract x6.toNat j6.toNat).size = 64) := ⟨by rw [E6.out, EJ.out, ext_size _ _ _ (by rw [HP.out]; have := HI.out; omega)]; omega⟩
      go_wp2
      replace B3 := Aside0.mk (blk_drew B3.out)
      replace B4 := Aside0.mk (blk_drew B4.out)
      replace HB := Aside0.mk (below_drew1 HB.out)
      go_still_tail 7, (by kernel_rfl)
      refine still_row 26 8 (.tmp 3) rfl rfl g3 rfl S B3.out und26 (by rw [HL.out]; exact i26) ?_
      still_step
      still_step
      still_step
      still_step
      still_step
      refine still_row 28 64 (.tmp 4) rfl rfl g4 rfl keysV B4.out und28 (by rw [keysV_len]; exact i28) ?_
      refine wpStill_nil ?_
      change wpList _ _ _ _ _ wr.drew
      generalize wr.drew = w2 at B3 B4 HB ⊢
      go_wp2_with (first
        | ((with_reducible refine gate_callee (f := 11) rfl ?_); refine goesC_ (some 26) Try.func11 #[.agg (u32s S), .string (p.extract x6.toNat j6.toNat), .agg (u32s keysV)] ?_; (with_reducible refine (spec_l03Block.calls S keysV (p.extract x6.toNat j6.toNat) _ HL.out keysV_len HBS.out).mono ?_); rintro e w' ⟨rfl, hb⟩; refine ⟨_, rfl, ?_⟩; replace B3 := Aside0.mk (blk_below B3.out hb); replace B4 := Aside0.mk (blk_below B4.out hb); replace HB := Aside0.mk (below_step HB.out hb); clear hb)
        | ((with_reducible refine gate_store (t := 26) (p := 3) rfl ?_); refine store26 rfl (.tmp 3) (.tmp 26) rfl g3 rfl (blockV S keysV (p.extract x6.toNat j6.toNat)) S rfl ((blockV_len _ _ _).trans HL.out) HL.out B3 ?_; intro wz hb ho hB; replace B4 := Aside0.mk ((ho g4 (by have := N34.out; omega)).trans B4.out); replace B3 := Aside0.mk hb; replace HB := Aside0.mk (hB HB.out G3.out); clear hb ho hB))
      go_roundg k1
      case measure => have := HI.out; omega
      case rel => exact ⟨i + 1, j6, rfl, ⟨by rw [EJ.out]; omega⟩, ⟨by have := HI.out; omega⟩, ⟨by rw [stD, ← ES.out, B3.out, E6.out, EJ.out]; rfl⟩, B4, HB⟩
end Go.Proofs.Ytingghknjicpjaa.PS
