import Derived.Shelf.Small.Strs
import Derived.Test.YtkimdmdkldlhpaaKCFd
namespace Go.Proofs.Ytkimdmdkldlhpaa.PA
open Go.RowKit Go.Proofs.YtkimdmdkldlhpaaW.PrintWords Go.Proofs.YtkimdmdkldlhpaaW.PrintLast Go.Proofs.YtkimdmdkldlhpaaW.PrintMore
attribute [local go_sem] max2_int min2_int max_two min_two max_three min_three max_four min_four
set_option linter.unusedVariables false
set_option linter.unusedSimpArgs false
set_option maxHeartbeats 4000000 in
set_option maxRecDepth 100000 in
theorem clo56_ok (i : Int) (g : Nat) {W : World} (hbox : W.heap[g]? = some (.cells #[.int .i64 i] 3 (0, 0))) : FnOk42 (clo56 i) 56 #[.pointer (some ⟨g, 0, none⟩)] W := by
  refine ⟨fun args w => enters_ Try.func56 (by kernel_rfl) rfl args w, fun x A3 c3 A4 c4 A5 c5 r h => ?_⟩
  obtain rfl := Option.some.inj h
  clear h
  have hu68 := Try.underlying42
  have hu3 := Try.underlying3
  have HB := Aside0.mk (Below.refl W.heap.size W)
  have BK := Aside0.mk hbox
  clear hbox
  obtain ⟨x0, x1, x2, x3, x4, x5⟩ := x
  unfold hereB
  show Calls Try.prog 56 #[.agg #[.int .i64 x0, .bool x1, .int .i64 x2, .slice A3 x3.length c3, .slice A4 x4.length c4, .slice A5 x5.length c5], .pointer (some ⟨g, 0, none⟩)] W _
  cases x1
  · go_enter Try.func56, Try.ntmps56
    go_wp2_with ((with_reducible refine gate_dst (N := 2) rfl ?_); refine box_event ?hg (N := 2) ?hd (cs := #[.int .i64 x0, .bool false, .int .i64 x2, .slice A3 x3.length c3, .slice A4 x4.length c4, .slice A5 x5.length c5]) (t := 42) ?hr ?_; (case hd => rfl); (case hg => rfl); (case hr => first | (go_simp; done) | (go_simp; rfl)); intro gb2 hg w5 hbox hb; have BK2 := Aside0.mk hbox; have hcz := blk_cell BK2.out; have hfz := blk_frozen BK2.out; have hs0 := blk_cell (blk_below BK.out hb); have HB := Aside0.mk hb; clear hb hbox hg)
    go_ret
    exact ⟨by first | rfl | (simp; done), bl_⟩
  · go_enter Try.func56, Try.ntmps56
    go_wp2_with ((with_reducible refine gate_dst (N := 2) rfl ?_); refine box_event ?hg (N := 2) ?hd (cs := #[.int .i64 x0, .bool true, .int .i64 x2, .slice A3 x3.length c3, .slice A4 x4.length c4, .slice A5 x5.length c5]) (t := 42) ?hr ?_; (case hd => rfl); (case hg => rfl); (case hr => first | (go_simp; done) | (go_simp; rfl)); intro gb2 hg w5 hbox hb; have BK2 := Aside0.mk hbox; have hcz := blk_cell BK2.out; have hfz := blk_frozen BK2.out; have hs0 := blk_cell (blk_below BK.out hb); have HB := Aside0.mk hb; clear hb hbox hg)
    go_ret
    exact ⟨by first | rfl | (simp; done), bl_⟩
set_option maxHeartbeats 4000000 in
set_option maxRecDepth 100000 in
theorem clo40_ok (i : Int) (g : Nat) {W : World} (hbox : W.heap[g]? = some (.cells #[.int .i64 i] 3 (0, 0))) : FnOk61 (clo40 i) 40 #[.pointer (some ⟨g, 0, none⟩)] W := by
  refine ⟨fun args w => enters_ Try.func40 (by kernel_rfl) rfl args w, fun x A1 c1 r h => ?_⟩
  obtain rfl := Option.some.inj h
  clear h
  have hu68 := Try.underlying61
  have hu3 := Try.underlying3
  have HB := Aside0.mk (Below.refl W.heap.size W)
  have BK := Aside0.mk hbox
  clear hbox
  obtain ⟨x0, x1⟩ := x
  show Calls Try.prog 40 #[.agg #[.int .i64 x0, .slice A1 x1.length c1], .pointer (some ⟨g, 0, none⟩)] W _
  go_enter Try.func40, Try.ntmps40
  go_wp2_with ((with_reducible refine gate_dst (N := 2) rfl ?_); refine box_event ?hg (N := 2) ?hd (cs := #[.int .i64 x0, .slice A1 x1.length c1]) (t := 61) ?hr ?_; (case hd => rfl); (case hg => rfl); (case hr => first | (go_simp; done) | (go_simp; rfl)); intro gb2 hg w5 hbox hb; have BK2 := Aside0.mk hbox; have hcz := blk_cell BK2.out; have hfz := blk_frozen BK2.out; have hs0 := blk_cell (blk_below BK.out hb); have HB := Aside0.mk hb; clear hb hbox hg)
  go_ret
  exact ⟨by first | rfl | (simp; done), bl_⟩
set_option maxHeartbeats 4000000 in
set_option maxRecDepth 100000 in
theorem clo53_ok {W : World} : FnOk252 clo53 53 #[] W := by
  refine ⟨fun args w => enters_ Try.func53 (by kernel_rfl) rfl args w, fun x y r h => ?_⟩
  obtain rfl := Option.some.inj h
  clear h
  have hu52 := Try.underlying52
  have HB := Aside0.mk (Below.refl W.heap.size W)
  obtain ⟨x0, x1⟩ := x
  obtain ⟨y0, y1⟩ := y
  have hC := fun w => Any.strings_Compare Try.lays106 x0 y0 w
  change ∀ w, Calls Try.prog 54 #[.string x0, .string y0] w _ at hC
  generalize Lib.compareBytes x0.data.toList y0.data.toList = r at hC ⊢
  show Calls Try.prog 53 #[.agg #[.string x0, .bool x1], .agg #[.string y0, .bool y1]] W _
  go_enter Try.func53, Try.ntmps53
  go_wp2_with (first | ((with_reducible refine gate_dst (N := 2) rfl ?_); refine box_event ?hg (N := 2) ?hd (cs := #[.string x0, .bool x1]) (t := 52) ?hr ?_; (case hd => rfl); (case hg => rfl); (case hr => first | (go_simp; done) | (go_simp; rfl)); intro gb2 hg w5 hbox hb; have BK2 := Aside0.mk hbox; have HB := Aside0.mk hb; clear hb hbox hg) | ((with_reducible refine gate_dst (N := 3) rfl ?_); refine box_event ?hg (N := 3) ?hd (cs := #[.string y0, .bool y1]) (t := 52) ?hr ?_; (case hd => rfl); (case hg => rfl); (case hr => first | (go_simp; done) | (go_simp; rfl)); intro gb3 hg w6 hbox hb; have BK3 := Aside0.mk hbox; have BK2 := Aside0.mk (blk_below BK2.out hb); have HB := Aside0.mk (HB.out.trans (hb.mono HB.out.size)); have hcz2 := blk_cell BK2.out; have hfz2 := blk_frozen BK2.out; have hcz3 := blk_cell BK3.out; have hfz3 := blk_frozen BK3.out; clear hb hbox hg) | (go_at_call 54; refine (hC _).mono ?_; rintro e w' ⟨rfl, rfl⟩))
  go_ret
  exact ⟨by first | rfl | (simp; done), bl_⟩
end Go.Proofs.Ytkimdmdkldlhpaa.PA
