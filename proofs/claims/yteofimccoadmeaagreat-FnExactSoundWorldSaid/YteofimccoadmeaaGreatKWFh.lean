import Derived.Test.YteofimccoadmeaaGreatKWPAx13
namespace Go.Proofs.YteofimccoadmeaaGreat.PA
open Go.RowKit Go.Proofs.YteofimccoadmeaaGreatW.PrintWords Go.Proofs.YteofimccoadmeaaGreatW.PrintLast Go.Proofs.YteofimccoadmeaaGreatW.PrintMore
attribute [local go_sem] max2_int min2_int max_two min_two max_three min_three max_four min_four
set_option linter.unusedVariables false
set_option linter.unusedSimpArgs false
theorem place_eq (x : Int) : impl_isPlace.f x = some (plB x) := by
  unfold impl_isPlace.f impl_in.f plB
  by_cases h : x ≥ 0
  · rw [if_pos h, Option.bind_some, decide_eq_true h, Bool.true_and]
  · rw [if_neg h, Option.bind_some, decide_eq_false (by omega), Bool.false_and]
set_option maxHeartbeats 4000000 in
set_option maxRecDepth 100000 in
theorem clo67_ok (i : Int) (g : Nat) {W : World} {cs : Array Value} (hbox : W.heap[g]? = some (.cells cs 68 (0, 0))) (hat : cs[0]? = some (.int .i64 i)) : FnOkI (clo67 i) 67 #[.pointer (some ⟨g, 0, none⟩)] W := by
  refine ⟨fun args w => enters_ Tryz.func67 (by kernel_rfl) rfl args w, fun x r h => ?_⟩
  obtain rfl := Option.some.inj h
  clear h
  have hu68 := Tryz.underlying68
  have hu3 := Tryz.underlying3
  have HP := Aside0.mk (place_eq x)
  have hcz := (blk_cell hbox 0).trans hat
  have HB := Aside0.mk (Below.refl W.heap.size W)
  have BK := Aside0.mk hbox
  have HA := Aside0.mk hat
  clear hbox hat
  show Calls Tryz.prog 67 #[.int .i64 x, .pointer (some ⟨g, 0, none⟩)] W _
  cases hp : plB x
  · rw [hp] at HP
    go_enter Tryz.func67, Tryz.ntmps67
    go_wp2_with (go_at_call 65; refine (impl_isPlace.calls x false _ HP.out).mono ?_; rintro e w8 ⟨rfl, ⟨nd, rfl⟩⟩)
    go_ret
    exact ⟨by first | rfl | (simp; done), bl_⟩
  · rw [hp] at HP
    go_enter Tryz.func67, Tryz.ntmps67
    go_wp2_with (go_at_call 65; refine (impl_isPlace.calls x true _ HP.out).mono ?_; rintro e w8 ⟨rfl, ⟨nd, rfl⟩⟩)
    go_ret
    exact ⟨by first | rfl | (simp; done), bl_⟩
set_option maxHeartbeats 4000000 in
set_option maxRecDepth 100000 in
theorem clo68_ok {W : World} : FnOkI clo68 68 #[] W := by
  refine ⟨fun args w => enters_ Tryz.func68 (by kernel_rfl) rfl args w, fun x r h => ?_⟩
  obtain rfl := Option.some.inj h
  clear h
  have hu3 := Tryz.underlying3
  have HP := Aside0.mk (place_eq x)
  have HB := Aside0.mk (Below.refl W.heap.size W)
  show Calls Tryz.prog 68 #[.int .i64 x] W _
  by_cases hx : x = -1
  · subst hx
    go_enter Tryz.func68, Tryz.ntmps68
    go_wp2
    go_ret
    exact ⟨by first | rfl | (simp; done), bl_⟩
  · have hx2 : (x == -1) = false := by simpa using hx
    cases hp : plB x
    · rw [hp] at HP
      go_enter Tryz.func68, Tryz.ntmps68
      go_wp2_with (go_at_call 65; refine (impl_isPlace.calls x false _ HP.out).mono ?_; rintro e w8 ⟨rfl, ⟨nd, rfl⟩⟩)
      go_ret
      exact ⟨by first | rfl | (simp; done) | (simp [bne, hx]; done) | (simp only [bne]; done), bl_⟩
    · rw [hp] at HP
      go_enter Tryz.func68, Tryz.ntmps68
      go_wp2_with (go_at_call 65; refine (impl_isPlace.calls x true _ HP.out).mono ?_; rintro e w8 ⟨rfl, ⟨nd, rfl⟩⟩)
      go_ret
      exact ⟨by first | rfl | (simp; done) | (simp [bne, hx]; done) | (simp only [bne]; done), bl_⟩
set_option maxHeartbeats 4000000 in
set_option maxRecDepth 100000 in
theorem clo87_ok (i : Int) (g : Nat) {W : World} (hbox : W.heap[g]? = some (.cells #[.int .i64 i] 3 (0, 0))) : FnOk68 (clo87 i) 87 #[.pointer (some ⟨g, 0, none⟩)] W := by
  refine ⟨fun args w => enters_ Tryz.func87 (by kernel_rfl) rfl args w, fun x A3 c3 A4 c4 A5 c5 r h => ?_⟩
  obtain rfl := Option.some.inj h
  clear h
  have hu68 := Tryz.underlying68
  have hu3 := Tryz.underlying3
  have HB := Aside0.mk (Below.refl W.heap.size W)
  have BK := Aside0.mk hbox
  clear hbox
  obtain ⟨x0, x1, x2, x3, x4, x5⟩ := x
  unfold hereB
  show Calls Tryz.prog 87 #[.agg #[.int .i64 x0, .bool x1, .int .i64 x2, .slice A3 x3.length c3, .slice A4 x4.length c4, .slice A5 x5.length c5], .pointer (some ⟨g, 0, none⟩)] W _
  cases x1
  · go_enter Tryz.func87, Tryz.ntmps87
    go_wp2_with ((with_reducible refine gate_dst (N := 2) rfl ?_); refine box_event ?hg (N := 2) ?hd (cs := #[.int .i64 x0, .bool false, .int .i64 x2, .slice A3 x3.length c3, .slice A4 x4.length c4, .slice A5 x5.length c5]) (t := 68) ?hr ?_; (case hd => rfl); (case hg => rfl); (case hr => first | (go_simp; done) | (go_simp; rfl)); intro gb2 hg w5 hbox hb; have BK2 := Aside0.mk hbox; have hcz := blk_cell BK2.out; have hfz := blk_frozen BK2.out; have hs0 := blk_cell (blk_below BK.out hb); have HB := Aside0.mk hb; clear hb hbox hg)
    go_ret
    exact ⟨by first | rfl | (simp; done), bl_⟩
  · go_enter Tryz.func87, Tryz.ntmps87
    go_wp2_with ((with_reducible refine gate_dst (N := 2) rfl ?_); refine box_event ?hg (N := 2) ?hd (cs := #[.int .i64 x0, .bool true, .int .i64 x2, .slice A3 x3.length c3, .slice A4 x4.length c4, .slice A5 x5.length c5]) (t := 68) ?hr ?_; (case hd => rfl); (case hg => rfl); (case hr => first | (go_simp; done) | (go_simp; rfl)); intro gb2 hg w5 hbox hb; have BK2 := Aside0.mk hbox; have hcz := blk_cell BK2.out; have hfz := blk_frozen BK2.out; have hs0 := blk_cell (blk_below BK.out hb); have HB := Aside0.mk hb; clear hb hbox hg)
    go_ret
    exact ⟨by first | rfl | (simp; done), bl_⟩
set_option maxHeartbeats 4000000 in
set_option maxRecDepth 100000 in
theorem clo45_ok (i : Int) (g : Nat) {W : World} {cs : Array Value} (hbox : W.heap[g]? = some (.cells cs 68 (0, 0))) (hat : cs[0]? = some (.int .i64 i)) : FnOk68 (clo45 i) 45 #[.pointer (some ⟨g, 0, none⟩)] W := by
  refine ⟨fun args w => enters_ Tryz.func45 (by kernel_rfl) rfl args w, fun x A3 c3 A4 c4 A5 c5 r h => ?_⟩
  obtain rfl := Option.some.inj h
  clear h
  have hu68 := Tryz.underlying68
  have hu3 := Tryz.underlying3
  have HB := Aside0.mk (Below.refl W.heap.size W)
  have BK := Aside0.mk hbox
  have HA := Aside0.mk hat
  clear hbox hat
  obtain ⟨x0, x1, x2, x3, x4, x5⟩ := x
  show Calls Tryz.prog 45 #[.agg #[.int .i64 x0, .bool x1, .int .i64 x2, .slice A3 x3.length c3, .slice A4 x4.length c4, .slice A5 x5.length c5], .pointer (some ⟨g, 0, none⟩)] W _
  go_enter Tryz.func45, Tryz.ntmps45
  go_wp2_with ((with_reducible refine gate_dst (N := 2) rfl ?_); refine box_event ?hg (N := 2) ?hd (cs := #[.int .i64 x0, .bool x1, .int .i64 x2, .slice A3 x3.length c3, .slice A4 x4.length c4, .slice A5 x5.length c5]) (t := 68) ?hr ?_; (case hd => rfl); (case hg => rfl); (case hr => first | (go_simp; done) | (go_simp; rfl)); intro gb2 hg w5 hbox hb; have BK2 := Aside0.mk hbox; have hcz := blk_cell BK2.out; have hfz := blk_frozen BK2.out; have hs0 := (blk_cell (blk_below BK.out hb) 0).trans HA.out; have HB := Aside0.mk hb; clear hb hbox hg)
  go_ret
  exact ⟨by first | rfl | (simp; done), bl_⟩
end Go.Proofs.YteofimccoadmeaaGreat.PA
