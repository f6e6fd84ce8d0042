/-
spec.l03Block: what the state is behind a block. No condition but the lengths.
-/
import Derived.Test.YtingghknjicpjaaKPSh0
namespace Go.Proofs.Ytingghknjicpjaa.PS
open Go.RowKit Go.Proofs.YtingghknjicpjaaW.PrintWords Go.Proofs.YtingghknjicpjaaW.PrintLast Go.Proofs.YtingghknjicpjaaW.PrintMore
set_option linter.unusedVariables false
set_option maxHeartbeats 8000000 in
set_option maxRecDepth 100000 in
theorem spec_l03Block.calls (hs ks : List Int) (b : ByteArray) (w : World) (hh : hs.length = 8) (hk : ks.length = 64) (hb : b.size = 64) : Calls Try.prog 11 #[.agg (u32s hs), .string b, .agg (u32s ks)] w fun e w' => e = .returned (.agg (u32s (blockV hs ks b))) ∧ Below w.heap.size w w' := by
  have HB := Aside0.mk (Below.refl w.heap.size w)
  have HH := Aside0.mk hh
  have HK := Aside0.mk hk
  have HS := Aside0.mk hb
  clear hh hk hb
  go_enter Try.func11, Try.ntmps11
  go_wp2_with (first
    | ((with_reducible refine gate_dst (N := 3) rfl ?_); refine box_event ?hg (N := 3) ?hd (cs := u32s hs) (t := 26) ?hr ?_; (case hd => rfl); (case hg => rfl); (case hr => first | (go_simp; done) | (go_simp; rfl)); intro g3 hg3 w3 hb hB; have B3 := Aside0.mk hb; have G3 : Aside0 (w.heap.size ≤ g3) := ⟨by rw [hg3]; exact below_size HB.out⟩; replace HB := Aside0.mk (below_step HB.out hB); clear hb hB hg3)
    | ((with_reducible refine gate_dst (N := 5) rfl ?_); refine box_event ?hg (N := 5) ?hd (cs := u32s ks) (t := 28) ?hr ?_; (case hd => rfl); (case hg => rfl); (case hr => first | (go_simp; done) | (go_simp; rfl)); intro g5 hg5 w5 hb hB; have N35 : Aside0 (g3 < g5) := ⟨by rw [hg5]; exact blk_lt B3.out⟩; replace B3 := Aside0.mk (blk_below B3.out hB); have B5 := Aside0.mk hb; have G5 : Aside0 (w.heap.size ≤ g5) := ⟨by rw [hg5]; exact below_size HB.out⟩; replace HB := Aside0.mk (below_step HB.out hB); clear hb hB hg5)
    | ((with_reducible refine gate_dst (N := 6) rfl ?_); refine box_event ?hg (N := 6) ?hd (cs := u32s zero8) (t := 26) ?hr ?_; (case hd => rfl); (case hg => rfl); (case hr => first | (go_simp; done) | (go_simp; rfl)); intro g6 hg6 w6 hb hB; have N36 : Aside0 (g3 < g6) := ⟨by rw [hg6]; exact blk_lt B3.out⟩; have N56 : Aside0 (g5 < g6) := ⟨by rw [hg6]; exact blk_lt B5.out⟩; replace B3 := Aside0.mk (blk_below B3.out hB); replace B5 := Aside0.mk (blk_below B5.out hB); have B6 := Aside0.mk hb; have G6 : Aside0 (w.heap.size ≤ g6) := ⟨by rw [hg6]; exact below_size HB.out⟩; replace HB := Aside0.mk (below_step HB.out hB); clear hb hB hg6)
    | ((with_reducible refine gate_dst (N := 21) rfl ?_); refine build28 rfl rfl ?_)
    | ((with_reducible refine gate_dst (N := 7) rfl ?_); refine box_event ?hg (N := 7) ?hd (cs := u32s zero64) (t := 28) ?hr ?_; (case hd => rfl); (case hg => rfl); (case hr => exact alloc28 _ _ rfl _); intro g7 hg7 w7 hb hB; have N37 : Aside0 (g3 < g7) := ⟨by rw [hg7]; exact blk_lt B3.out⟩; have N57 : Aside0 (g5 < g7) := ⟨by rw [hg7]; exact blk_lt B5.out⟩; have N67 : Aside0 (g6 < g7) := ⟨by rw [hg7]; exact blk_lt B6.out⟩; replace B3 := Aside0.mk (blk_below B3.out hB); replace B5 := Aside0.mk (blk_below B5.out hB); replace B6 := Aside0.mk (blk_below B6.out hB); have B7 := Aside0.mk hb; have G7 : Aside0 (w.heap.size ≤ g7) := ⟨by rw [hg7]; exact below_size HB.out⟩; replace HB := Aside0.mk (below_step HB.out hB); clear hb hB hg7)
    | ((with_reducible refine gate_store (t := 28) (p := 7) rfl ?_); refine wpList_store_row rfl 28 (.tmp 7) (.tmp 21) rfl g7 (u32s zero64) rfl rfl 28 (u32s zero64) B7.out (by rw [u32s_size, zero64_len]; exact i28) rfl (u32s_one _) ?_; rw [setRow_self _ _ _ _ _ B7.out]))
  go_loopg [8] 16 (fun kq v8 w' => ∃ (i : Nat), v8 = .int .i64 (i : Int) ∧ Aside0 (i + kq = 16) ∧ Aside0 (w'.heap[g3]? = some (.cells (u32s hs) 26 (0, 0))) ∧ Aside0 (w'.heap[g5]? = some (.cells (u32s ks) 28 (0, 0))) ∧ Aside0 (w'.heap[g6]? = some (.cells (u32s zero8) 26 (0, 0))) ∧ Aside0 (w'.heap[g7]? = some (.cells (u32s (wA b i)) 28 (0, 0))) ∧ Aside0 (Below w.heap.size w w'))
  case atStart => exact ⟨0, rfl, ⟨rfl⟩, B3, B5, B6, B7, HB⟩
  case round =>
    clear B3 B5 B6 B7 HB
    obtain ⟨i, rfl, HI, B3, B5, B6, B7, HB⟩ := hrel
    cases gk with
    | zero =>
      have hi : i = 16 := by have := HI.out; omega
      subst hi
      have c0 : decide (((16 : Nat) : Int) < 16) = false := by decide
      clear HI
      go_wp2
      go_loopg [9] 48 (fun kq v9 w' => ∃ (k : Nat) (x9 : Int), v9 = .int .i64 x9 ∧ Aside0 (x9 = ((k + 16 : Nat) : Int)) ∧ Aside0 (k + kq = 48) ∧ Aside0 (w'.heap[g3]? = some (.cells (u32s hs) 26 (0, 0))) ∧ Aside0 (w'.heap[g5]? = some (.cells (u32s ks) 28 (0, 0))) ∧ Aside0 (w'.heap[g6]? = some (.cells (u32s zero8) 26 (0, 0))) ∧ Aside0 (w'.heap[g7]? = some (.cells (u32s (wB b k)) 28 (0, 0))) ∧ Aside0 (Below w.heap.size w w'))
      case atStart => exact ⟨0, 16, rfl, ⟨rfl⟩, ⟨rfl⟩, B3, B5, B6, B7, HB⟩
      case round =>
        clear B3 B5 B6 B7 HB
        obtain ⟨k, x9, rfl, E9, HI, B3, B5, B6, B7, HB⟩ := hrel
        cases gk with
        | zero =>
          have hk : k = 48 := by have := HI.out; omega
          subst hk
          have c0 : decide (x9 < 64) = false := decide_eq_false (by rw [E9.out]; omega)
          have HW := Aside0.mk (wB_len b 48)
          obtain ⟨W, hW⟩ : ∃ W, W = wB b 48 := ⟨_, rfl⟩
          have EW := Aside0.mk hW
          rw [← hW] at B7 HW
          clear hW HI E9
          go_wp2_with (first
            | ((with_reducible refine gate_dst (N := 110) rfl ?_); refine load26 rfl (.tmp 3) rfl g3 rfl hs HH.out B3 ?_)
            | ((with_reducible refine gate_dst (N := 12) rfl ?_); refine box_event ?hg (N := 12) ?hd (cs := u32s zero8) (t := 26) ?hr ?_; (case hd => rfl); (case hg => rfl); (case hr => first | (go_simp; done) | (go_simp; rfl)); intro g12 hg12 w12 hb hB; have N312 : Aside0 (g3 < g12) := ⟨by rw [hg12]; exact blk_lt B3.out⟩; have N512 : Aside0 (g5 < g12) := ⟨by rw [hg12]; exact blk_lt B5.out⟩; have N612 : Aside0 (g6 < g12) := ⟨by rw [hg12]; exact blk_lt B6.out⟩; have N712 : Aside0 (g7 < g12) := ⟨by rw [hg12]; exact blk_lt B7.out⟩; replace B3 := Aside0.mk (blk_below B3.out hB); replace B5 := Aside0.mk (blk_below B5.out hB); replace B6 := Aside0.mk (blk_below B6.out hB); replace B7 := Aside0.mk (blk_below B7.out hB); have B12 := Aside0.mk hb; have G12 : Aside0 (w.heap.size ≤ g12) := ⟨by rw [hg12]; exact below_size HB.out⟩; replace HB := Aside0.mk (below_step HB.out hB); clear hb hB hg12)
            | ((with_reducible refine gate_store (t := 26) (p := 12) rfl ?_); refine store26 rfl (.tmp 12) (.tmp 110) rfl g12 rfl hs zero8 rfl HH.out rfl B12 ?_; intro w13 hb ho hB; replace B3 := Aside0.mk ((ho g3 (by have := N312.out; omega)).trans B3.out); replace B5 := Aside0.mk ((ho g5 (by have := N512.out; omega)).trans B5.out); replace B6 := Aside0.mk ((ho g6 (by have := N612.out; omega)).trans B6.out); replace B7 := Aside0.mk ((ho g7 (by have := N712.out; omega)).trans B7.out); replace B12 := Aside0.mk hb; replace HB := Aside0.mk (hB HB.out G12.out); clear hb ho hB))
          go_loopg [13] 64 (fun kq v13 w' => ∃ (i : Nat) (x13 : Int), v13 = .int .i64 x13 ∧ Aside0 (x13 = (i : Int)) ∧ Aside0 (i + kq = 64) ∧ Aside0 (w'.heap[g3]? = some (.cells (u32s hs) 26 (0, 0))) ∧ Aside0 (w'.heap[g5]? = some (.cells (u32s ks) 28 (0, 0))) ∧ Aside0 (w'.heap[g6]? = some (.cells (u32s zero8) 26 (0, 0))) ∧ Aside0 (w'.heap[g7]? = some (.cells (u32s W) 28 (0, 0))) ∧ Aside0 (w'.heap[g12]? = some (.cells (u32s (stC hs ks W i)) 26 (0, 0))) ∧ Aside0 (Below w.heap.size w w'))
          case atStart => exact ⟨0, 0, rfl, ⟨rfl⟩, ⟨rfl⟩, B3, B5, B6, B7, B12, HB⟩
          case round =>
            clear B3 B5 B6 B7 B12 HB
            obtain ⟨i, x13, rfl, E13, HI, B3, B5, B6, B7, B12, HB⟩ := hrel
            cases gk with
            | zero =>
              have hi : i = 64 := by have := HI.out; omega
              subst hi
              have c0 : decide (x13 < 64) = false := decide_eq_false (by rw [E13.out]; omega)
              have HT := Aside0.mk ((stC_len hs ks W 64).trans HH.out)
              obtain ⟨T, hT⟩ : ∃ T, T = stC hs ks W 64 := ⟨_, rfl⟩
              have ET := Aside0.mk hT
              rw [← hT] at B12 HT
              clear hT HI E13
              go_wp2
              go_loopg [20] 8 (fun kq v20 w' => ∃ (i : Nat) (x20 : Int), v20 = .int .i64 x20 ∧ Aside0 (x20 = (i : Int)) ∧ Aside0 (i + kq = 8) ∧ Aside0 (w'.heap[g3]? = some (.cells (u32s (hD hs T i)) 26 (0, 0))) ∧ Aside0 (w'.heap[g6]? = some (.cells (u32s zero8) 26 (0, 0))) ∧ Aside0 (w'.heap[g12]? = some (.cells (u32s T) 26 (0, 0))) ∧ Aside0 (Below w.heap.size w w'))
              case atStart => exact ⟨0, 0, rfl, ⟨rfl⟩, ⟨rfl⟩, B3, B6, B12, HB⟩
              case round =>
                clear B3 B5 B6 B7 B12 HB
                obtain ⟨i, x20, rfl, E20, HI, B3, B6, B12, HB⟩ := hrel
                cases gk with
                | zero =>
                  have hi : i = 8 := by have := HI.out; omega
                  subst hi
                  have c0 : decide (x20 < 8) = false := decide_eq_false (by rw [E20.out]; omega)
                  have HD := (hD_len hs T 8).trans HH.out
                  have ER : hD hs T 8 = blockV hs ks b := by rw [ET.out, EW.out]; rfl
                  rw [ER] at B3 HD
                  have HR := Aside0.mk HD
                  clear HD
                  go_wp2_with (first
                    | ((with_reducible refine gate_dst (N := 223) rfl ?_); refine load26 rfl (.tmp 3) rfl g3 rfl (blockV hs ks b) HR.out B3 ?_)
                    | ((with_reducible refine gate_store (t := 26) (p := 6) rfl ?_); refine store26 rfl (.tmp 6) (.tmp 223) rfl g6 rfl (blockV hs ks b) zero8 rfl HR.out rfl B6 ?_; intro w15 hb ho hB; replace B6 := Aside0.mk hb; replace HB := Aside0.mk (hB HB.out G6.out); clear hb ho hB))
                  refine bodyPost_ret (results_cell_row rfl _ _ g6 26 (u32s (blockV hs ks b)) (0, 0) (.array 8 25) rfl B6.out und26 rfl (by rw [u32s_size, HR.out]; exact i26)) rfl ⟨rfl, HB.out⟩
                | succ k1 =>
                  have c0 : decide (x20 < 8) = true := decide_eq_true (by have := HI.out; rw [E20.out]; omega)
                  have HL := Aside0.mk ((hD_len hs T i).trans HH.out)
                  obtain ⟨S, hS⟩ : ∃ S, S = hD hs T i := ⟨_, rfl⟩
                  have ES := Aside0.mk hS
                  rw [← hS] at B3 HL
                  clear hS
                  have hp20 := eq_true (show (0 : Int) ≤ x20 by rw [E20.out]; omega)
                  have hq20 := eq_true (show x20 < 8 by rw [E20.out]; have := HI.out; omega)
                  go_wp2
                  replace B3 := Aside0.mk (blk_drew B3.out)
                  replace B6 := Aside0.mk (blk_drew B6.out)
                  replace B12 := Aside0.mk (blk_drew B12.out)
                  replace HB := Aside0.mk (below_drew1 HB.out)
                  have hc3 := u_cell B3 x20 (by rw [E20.out]; omega) (by rw [E20.out, HL.out]; have := HI.out; omega)
                  have hc12 := u_cell B12 x20 (by rw [E20.out]; omega) (by rw [E20.out, HT.out]; have := HI.out; omega)
                  go_still_tail 9, (by kernel_rfl)
                  clear hc3 hc12
                  change wpList _ _ _ _ _ wr.drew
                  generalize wr.drew = w2 at B3 B6 B12 HB ⊢
                  have hc3 := u_cell B3 x20 (by rw [E20.out]; omega) (by rw [E20.out, HL.out]; have := HI.out; omega)
                  have hf3 := u_frz B3 x20.toNat
                  go_wp2
                  go_roundg k1
                  case measure => have := HI.out; omega
                  case rel =>
                    have e20 := E20.out
                    subst e20
                    rw [up_n (by have := HI.out; omega)]
                    refine ⟨i + 1, _, rfl, ⟨rfl⟩, ⟨by have := HI.out; omega⟩, ?_, u_far B6 _ _ (by have := N36.out; omega), u_far B12 _ _ (by have := N312.out; omega), ⟨below_set HB.out G3.out⟩⟩
                    have := u_put B3 i ((rd S (i : Int) + rd T (i : Int)) % 4294967296)
                    rw [ES.out] at this ⊢
                    exact this
            | succ k1 =>
              have c0 : decide (x13 < 64) = true := decide_eq_true (by have := HI.out; rw [E13.out]; omega)
              have HL := Aside0.mk ((stC_len hs ks W i).trans HH.out)
              obtain ⟨S, hS⟩ : ∃ S, S = stC hs ks W i := ⟨_, rfl⟩
              have ES := Aside0.mk hS
              rw [← hS] at B12 HL
              clear hS
              have hp13 := eq_true (show (0 : Int) ≤ x13 by rw [E13.out]; omega)
              have hq13 := eq_true (show x13 < 64 by rw [E13.out]; have := HI.out; omega)
              go_wp2
              replace B3 := Aside0.mk (blk_drew B3.out)
              replace B5 := Aside0.mk (blk_drew B5.out)
              replace B6 := Aside0.mk (blk_drew B6.out)
              replace B7 := Aside0.mk (blk_drew B7.out)
              replace B12 := Aside0.mk (blk_drew B12.out)
              replace HB := Aside0.mk (below_drew1 HB.out)
              have hs4 := u_at B12 4 (by rw [HL.out]; omega)
              go_still_tail 11, (by kernel_rfl)
              still_call (turn_calls (rd S 4) 6 _ (by decide) (by decide))
              repeat still_step
              still_call (turn_calls (rd S 4) 11 _ (by decide) (by decide))
              repeat still_step
              still_call (turn_calls (rd S 4) 25 _ (by decide) (by decide))
              repeat still_step
              refine wpStill_nil ?_
              clear hs4
              change wpList _ _ _ _ _ wr.drew
              generalize wr.drew = w2 at B3 B5 B6 B7 B12 HB ⊢
              have hs4 := u_at B12 4 (by rw [HL.out]; omega)
              have hs5 := u_at B12 5 (by rw [HL.out]; omega)
              have hs6 := u_at B12 6 (by rw [HL.out]; omega)
              go_wp2
              clear hs4 hs5 hs6
              replace B3 := Aside0.mk (blk_drew B3.out)
              replace B5 := Aside0.mk (blk_drew B5.out)
              replace B6 := Aside0.mk (blk_drew B6.out)
              replace B7 := Aside0.mk (blk_drew B7.out)
              replace B12 := Aside0.mk (blk_drew B12.out)
              replace HB := Aside0.mk (below_drew1 HB.out)
              have hs7 := u_at B12 7 (by rw [HL.out]; omega)
              have hck := u_cell B5 x13 (by rw [E13.out]; omega) (by rw [E13.out, HK.out]; have := HI.out; omega)
              have hcw := u_cell B7 x13 (by rw [E13.out]; omega) (by rw [E13.out, HW.out]; have := HI.out; omega)
              go_still_tail 14, (by kernel_rfl)
              clear hck hcw
              clear hs7
              change wpList _ _ _ _ _ w2.drew
              generalize w2.drew = w3 at B3 B5 B6 B7 B12 HB ⊢
              go_wp2
              replace B3 := Aside0.mk (blk_drew B3.out)
              replace B5 := Aside0.mk (blk_drew B5.out)
              replace B6 := Aside0.mk (blk_drew B6.out)
              replace B7 := Aside0.mk (blk_drew B7.out)
              replace B12 := Aside0.mk (blk_drew B12.out)
              replace HB := Aside0.mk (below_drew1 HB.out)
              have hs0 := u_at B12 0 (by rw [HL.out]; omega)
              go_still_tail 11, (by kernel_rfl)
              still_call (turn_calls (rd S 0) 2 _ (by decide) (by decide))
              repeat still_step
              still_call (turn_calls (rd S 0) 13 _ (by decide) (by decide))
              repeat still_step
              still_call (turn_calls (rd S 0) 22 _ (by decide) (by decide))
              repeat still_step
              refine wpStill_nil ?_
              clear hs0
              change wpList _ _ _ _ _ w3.drew
              generalize w3.drew = w4 at B3 B5 B6 B7 B12 HB ⊢
              have hs0 := u_at B12 0 (by rw [HL.out]; omega)
              have hs1 := u_at B12 1 (by rw [HL.out]; omega)
              have hs2 := u_at B12 2 (by rw [HL.out]; omega)
              have hs3 := u_at B12 3 (by rw [HL.out]; omega)
              have hs4 := u_at B12 4 (by rw [HL.out]; omega)
              have hs5 := u_at B12 5 (by rw [HL.out]; omega)
              have hs6 := u_at B12 6 (by rw [HL.out]; omega)
              have hs7 := u_at B12 7 (by rw [HL.out]; omega)
              have hfz := u_frz B12
              go_wp2
              go_roundg k1
              case measure => have := HI.out; omega
              case rel =>
                have e13 := E13.out
                subst e13
                rw [up_n (by have := HI.out; omega)]
                have e2 : stC hs ks W (i + 1) = rnd S (rd ks (i : Int)) (rd W (i : Int)) := by rw [ES.out]; rfl
                have n3 : g3 ≠ g12 := by have := N312.out; omega
                have n5 : g5 ≠ g12 := by have := N512.out; omega
                have n6 : g6 ≠ g12 := by have := N612.out; omega
                have n7 : g7 ≠ g12 := by have := N712.out; omega
                refine ⟨i + 1, _, rfl, ⟨rfl⟩, ⟨by have := HI.out; omega⟩, (u_far (u_far (u_far (u_far (u_far (u_far (u_far (u_far B3 7 _ n3) 6 _ n3) 5 _ n3) 4 _ n3) 3 _ n3) 2 _ n3) 1 _ n3) 0 _ n3), (u_far (u_far (u_far (u_far (u_far (u_far (u_far (u_far B5 7 _ n5) 6 _ n5) 5 _ n5) 4 _ n5) 3 _ n5) 2 _ n5) 1 _ n5) 0 _ n5), (u_far (u_far (u_far (u_far (u_far (u_far (u_far (u_far B6 7 _ n6) 6 _ n6) 5 _ n6) 4 _ n6) 3 _ n6) 2 _ n6) 1 _ n6) 0 _ n6), (u_far (u_far (u_far (u_far (u_far (u_far (u_far (u_far B7 7 _ n7) 6 _ n7) 5 _ n7) 4 _ n7) 3 _ n7) 2 _ n7) 1 _ n7) 0 _ n7), ?_, ⟨(below_set (below_set (below_set (below_set (below_set (below_set (below_set (below_set HB.out G12.out) G12.out) G12.out) G12.out) G12.out) G12.out) G12.out) G12.out)⟩⟩
                rw [e2]
                exact (u_put (u_put (u_put (u_put (u_put (u_put (u_put (u_put B12 7 _) 6 _) 5 _) 4 _) 3 _) 2 _) 1 _) 0 _)
        | succ k1 =>
          have c0 : decide (x9 < 64) = true := decide_eq_true (by have := HI.out; rw [E9.out]; omega)
          have HL := Aside0.mk (wB_len b k)
          obtain ⟨L, hL⟩ : ∃ L, L = wB b k := ⟨_, rfl⟩
          have EL := Aside0.mk hL
          rw [← hL] at B7 HL
          clear hL
          obtain ⟨m15, hm15⟩ : ∃ j : Int, IntKind.i64.wrap (x9 - 15) = j := ⟨_, rfl⟩
          have E15 : Aside0 (m15 = ((k + 1 : Nat) : Int)) := ⟨by rw [← hm15, E9.out]; exact ws_ k 15 1 (by have := HI.out; omega) rfl (by omega)⟩
          have hp15 := eq_true (show (0 : Int) ≤ m15 by rw [E15.out]; omega)
          have hq15 := eq_true (show m15 < 64 by rw [E15.out]; have := HI.out; omega)
          obtain ⟨m2, hm2⟩ : ∃ j : Int, IntKind.i64.wrap (x9 - 2) = j := ⟨_, rfl⟩
          have E2 : Aside0 (m2 = ((k + 14 : Nat) : Int)) := ⟨by rw [← hm2, E9.out]; exact ws_ k 2 14 (by have := HI.out; omega) rfl (by omega)⟩
          have hp2 := eq_true (show (0 : Int) ≤ m2 by rw [E2.out]; omega)
          have hq2 := eq_true (show m2 < 64 by rw [E2.out]; have := HI.out; omega)
          obtain ⟨m16, hm16⟩ : ∃ j : Int, IntKind.i64.wrap (x9 - 16) = j := ⟨_, rfl⟩
          have E16 : Aside0 (m16 = ((k + 0 : Nat) : Int)) := ⟨by rw [← hm16, E9.out]; exact ws_ k 16 0 (by have := HI.out; omega) rfl (by omega)⟩
          have hp16 := eq_true (show (0 : Int) ≤ m16 by rw [E16.out]; omega)
          have hq16 := eq_true (show m16 < 64 by rw [E16.out]; have := HI.out; omega)
          obtain ⟨m7, hm7⟩ : ∃ j : Int, IntKind.i64.wrap (x9 - 7) = j := ⟨_, rfl⟩
          have E7 : Aside0 (m7 = ((k + 9 : Nat) : Int)) := ⟨by rw [← hm7, E9.out]; exact ws_ k 7 9 (by have := HI.out; omega) rfl (by omega)⟩
          have hp7 := eq_true (show (0 : Int) ≤ m7 by rw [E7.out]; omega)
          have hq7 := eq_true (show m7 < 64 by rw [E7.out]; have := HI.out; omega)
          go_wp2
          replace B3 := Aside0.mk (blk_drew B3.out)
          replace B5 := Aside0.mk (blk_drew B5.out)
          replace B6 := Aside0.mk (blk_drew B6.out)
          replace B7 := Aside0.mk (blk_drew B7.out)
          replace HB := Aside0.mk (below_drew1 HB.out)
          have hc15 := u_cell B7 m15 (by rw [E15.out]; omega) (by rw [E15.out, HL.out]; have := HI.out; omega)
          go_still_tail 17, (by kernel_rfl)
          still_call (turn_calls (rd L m15) 7 _ (by decide) (by decide))
          repeat still_step
          still_call (turn_calls (rd L m15) 18 _ (by decide) (by decide))
          repeat still_step
          refine wpStill_nil ?_
          clear hc15
          change wpList _ _ _ _ _ wr.drew
          generalize wr.drew = w2 at B3 B5 B6 B7 HB ⊢
          go_wp2
          replace B3 := Aside0.mk (blk_drew B3.out)
          replace B5 := Aside0.mk (blk_drew B5.out)
          replace B6 := Aside0.mk (blk_drew B6.out)
          replace B7 := Aside0.mk (blk_drew B7.out)
          replace HB := Aside0.mk (below_drew1 HB.out)
          have hc2 := u_cell B7 m2 (by rw [E2.out]; omega) (by rw [E2.out, HL.out]; have := HI.out; omega)
          go_still_tail 17, (by kernel_rfl)
          still_call (turn_calls (rd L m2) 17 _ (by decide) (by decide))
          repeat still_step
          still_call (turn_calls (rd L m2) 19 _ (by decide) (by decide))
          repeat still_step
          refine wpStill_nil ?_
          clear hc2
          change wpList _ _ _ _ _ w2.drew
          generalize w2.drew = w3 at B3 B5 B6 B7 HB ⊢
          go_wp2
          replace B3 := Aside0.mk (blk_drew B3.out)
          replace B5 := Aside0.mk (blk_drew B5.out)
          replace B6 := Aside0.mk (blk_drew B6.out)
          replace B7 := Aside0.mk (blk_drew B7.out)
          replace HB := Aside0.mk (below_drew1 HB.out)
          have hc16 := u_cell B7 m16 (by rw [E16.out]; omega) (by rw [E16.out, HL.out]; have := HI.out; omega)
          have hc7 := u_cell B7 m7 (by rw [E7.out]; omega) (by rw [E7.out, HL.out]; have := HI.out; omega)
          have hp9 := eq_true (show (0 : Int) ≤ x9 by rw [E9.out]; omega)
          have hq9 := eq_true (show x9 < 64 by rw [E9.out]; have := HI.out; omega)
          go_still_tail 15, (by kernel_rfl)
          clear hc16 hc7
          change wpList _ _ _ _ _ w3.drew
          generalize w3.drew = w4 at B3 B5 B6 B7 HB ⊢
          have hc9 := u_cell B7 x9 (by rw [E9.out]; omega) (by rw [E9.out, HL.out]; have := HI.out; omega)
          have hf9 := u_frz B7 x9.toNat
          go_wp2
          go_roundg k1
          case measure => have := HI.out; omega
          case rel =>
            have en : wrap64 (x9 + 1) = ((k + 1 + 16 : Nat) : Int) := by rw [E9.out, up_n (by have := HI.out; omega)]
            have et : x9.toNat = k + 16 := by rw [E9.out]; omega
            have ev : (rd L m16 + Go.bits .xor .u32 (Go.bits .xor .u32 (tv (rd L m15) 7) (tv (rd L m15) 18)) (rd L m15 / 8) + rd L m7 + Go.bits .xor .u32 (Go.bits .xor .u32 (tv (rd L m2) 17) (tv (rd L m2) 19)) (rd L m2 / 1024)) % 4294967296 = nx L k := by
              rw [E15.out, E2.out, E16.out, E7.out]
              rfl
            rw [en, et, ev]
            refine ⟨k + 1, _, rfl, ⟨rfl⟩, ⟨by have := HI.out; omega⟩, u_far B3 _ _ (by have := N37.out; omega), u_far B5 _ _ (by have := N57.out; omega), u_far B6 _ _ (by have := N67.out; omega), ?_, ⟨below_set HB.out G7.out⟩⟩
            have := u_put B7 (k + 16) (nx L k)
            rw [EL.out] at this ⊢
            exact this
    | succ k1 =>
      have hi : i < 16 := by have := HI.out; omega
      have c0 : decide ((i : Int) < 16) = true := decide_eq_true (by omega)
      obtain ⟨j0, hj0⟩ : ∃ j : Int, IntKind.i64.wrap (4 * (i : Int)) = j := ⟨_, rfl⟩
      obtain ⟨j1, hj1⟩ : ∃ j : Int, IntKind.i64.wrap (j0 + 1) = j := ⟨_, rfl⟩
      obtain ⟨j2, hj2⟩ : ∃ j : Int, IntKind.i64.wrap (j0 + 2) = j := ⟨_, rfl⟩
      obtain ⟨j3, hj3⟩ : ∃ j : Int, IntKind.i64.wrap (j0 + 3) = j := ⟨_, rfl⟩
      have E0 : Aside0 (j0 = ((4 * i : Nat) : Int)) := ⟨by rw [← hj0]; exact w4_ hi⟩
      have E1 : Aside0 (j1 = ((4 * i + 1 : Nat) : Int)) := ⟨by rw [← hj1, E0.out]; exact w4p_ hi 1 (by omega)⟩
      have E2 : Aside0 (j2 = ((4 * i + 2 : Nat) : Int)) := ⟨by rw [← hj2, E0.out]; exact w4p_ hi 2 (by omega)⟩
      have E3 : Aside0 (j3 = ((4 * i + 3 : Nat) : Int)) := ⟨by rw [← hj3, E0.out]; exact w4p_ hi 3 (by omega)⟩
      have hp0 := eq_true (show (0 : Int) ≤ j0 by rw [E0.out]; omega)
      have hq0 := eq_true (show j0 < (b.size : Int) by rw [E0.out, HS.out]; omega)
      have hx0 := bt_at b j0
      have hp1 := eq_true (show (0 : Int) ≤ j1 by rw [E1.out]; omega)
      have hq1 := eq_true (show j1 < (b.size : Int) by rw [E1.out, HS.out]; omega)
      have hx1 := bt_at b j1
      have hp2 := eq_true (show (0 : Int) ≤ j2 by rw [E2.out]; omega)
      have hq2 := eq_true (show j2 < (b.size : Int) by rw [E2.out, HS.out]; omega)
      have hx2 := bt_at b j2
      have hp3 := eq_true (show (0 : Int) ≤ j3 by rw [E3.out]; omega)
      have hq3 := eq_true (show j3 < (b.size : Int) by rw [E3.out, HS.out]; omega)
      have hx3 := bt_at b j3
      have hp := eq_true (show (0 : Int) ≤ (i : Int) by omega)
      have hq := eq_true (show (i : Int) < 64 by omega)
      clear hi
      go_wp2
      go_still_tail 31, (by kernel_rfl)
      replace B3 := Aside0.mk (blk_drew B3.out)
      replace B5 := Aside0.mk (blk_drew B5.out)
      replace B6 := Aside0.mk (blk_drew B6.out)
      replace B7 := Aside0.mk (blk_drew B7.out)
      replace HB := Aside0.mk (below_drew1 HB.out)
      change wpList _ _ _ _ _ wr.drew
      generalize wr.drew = w2 at B3 B5 B6 B7 HB ⊢
      have hc7 : w2.cell? ⟨g7, i, none⟩ = some (.int .u32 (rd (wA b i) (i : Int))) := by simpa using u_cell B7 (i : Int) (by omega) (by rw [wA_len]; have := HI.out; omega)
      have hf7 := u_frz B7 i
      go_wp2
      go_roundg k1
      case measure => have := HI.out; omega
      case rel =>
        have hwd : (Go.bits .or .u32 (Go.bits .or .u32 (Go.bits .or .u32 (bt b j0 % 4294967296 * 16777216 % 4294967296) (bt b j1 % 4294967296 * 65536 % 4294967296)) (bt b j2 % 4294967296 * 256 % 4294967296)) (bt b j3 % 4294967296)) = wd b i := by
          rw [E0.out, E1.out, E2.out, E3.out]
          rfl
        rw [hwd]
        exact ⟨i + 1, by rw [up_n (by have := HI.out; omega)], ⟨by have := HI.out; omega⟩, u_far B3 _ _ (by have := N37.out; omega), u_far B5 _ _ (by have := N57.out; omega), u_far B6 _ _ (by have := N67.out; omega), u_put B7 i _, ⟨below_set HB.out G7.out⟩⟩
end Go.Proofs.Ytingghknjicpjaa.PS
