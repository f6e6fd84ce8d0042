import Derived.Test.YteehgihclnlaoaaKDPAx15
-- printed by wip/tools
namespace Go.Proofs.Yteehgihclnlaoaa.PA
open Go.RowKit Go.Proofs.YteehgihclnlaoaaW.PrintWords Go.Proofs.YteehgihclnlaoaaW.PrintLast Go.Proofs.YteehgihclnlaoaaW.PrintMore
attribute [local go_sem] max2_int min2_int max_two min_two max_three min_three max_four min_four
set_option linter.unusedVariables false
set_option linter.unusedSimpArgs false
def impl_LostAt.keep (k : Nat) (still : List S54) (x : S54) : Bool := (impl_Fact_39.f k still x.f0.f0 x.f0.f1 x.f1).getD false
def impl_LostAt.out (k : Nat) (t1 t2 : List S54) : Option (List S54) := if ∀ x ∈ t2, (impl_Fact_39.f k t1 x.f0.f0 x.f0.f1 x.f1).isSome = true then some (t2.filter fun x => !impl_LostAt.keep k t1 x) else none
def impl_LostAt.f (k : Nat) (l0 : List (S48)) (a1 : Int) : Option (List (S54)) := if -1000000 ≤ a1 ∧ a1 ≤ 1000000 then (impl_StillAt.f k l0 a1).bind fun t1 => (impl_StillAt.f k l0 (a1 - 1)).bind fun t2 => impl_LostAt.out k t1 t2 else some []
set_option maxHeartbeats 4000000 in
set_option maxRecDepth 100000 in
theorem impl_LostAt.clo (k : Nat) (gb : Nat) (As : Option Addr) (cs : Nat) (still : List S54) (x : S54) (b : Bool) (w : World) (hbox : w.heap[gb]? = some (.cells #[.slice As still.length cs] 38 (0, 0))) (hr : Kd.C k54 w As still.length still) (hc : still.length ≤ cs) (h : impl_Fact_39.f k still x.f0.f0 x.f0.f1 x.f1 = some b) :
  Calls Try.prog 38 #[.agg #[.int .i64 x.f0.f0, .int .i64 x.f0.f1, .int .i64 x.f1], .pointer (some ⟨gb, 0, none⟩)] w fun e w' => e = .returned (.bool b) ∧ Below w.heap.size w w' := by
 have hue := Try.underlying54
 have hus := Try.underlying38
 have HR0 := Aside0.mk hr
 have HC0 := Aside0.mk hc
 have H := Aside0.mk h
 have HB := Aside0.mk (Below.refl w.heap.size w)
 have BK := Aside0.mk hbox
 clear hr hc h hbox
 go_enter Try.func38, Try.ntmps38
 go_wp2_with (first | ((with_reducible refine gate_dst (N := 2) rfl ?_); refine box_event ?hg (N := 2) ?hd (cs := #[.int .i64 x.f0.f0, .int .i64 x.f0.f1, .int .i64 x.f1]) (t := 54) ?hr ?_; (case hd => rfl); (case hg => rfl); (case hr => first | (go_simp; done) | (go_simp; rfl)); intro gb2 hg w5 hbox hb; have BK2 := Aside0.mk hbox; have hcz := blk_cell BK2.out; have hfz := blk_frozen BK2.out; have hs0 := blk_cell (blk_below BK.out hb) 0; have HB := Aside0.mk hb; clear hb hbox hg) | ((with_reducible refine gate_callee (f := 39) rfl ?_); refine goesC_ (some 6) Try.func39 #[.slice As still.length cs, .agg #[.int .i64 x.f0.f0, .int .i64 x.f0.f1, .int .i64 x.f1]] ?_; (with_reducible refine (impl_Fact_39.calls k As cs still x.f0.f0 x.f0.f1 x.f1 b _ ?side1 ?side2 H.out).mono ?_); (case side1 => exact Kd.C_below HR0.out HB.out); (case side2 => exact HC0.out); rintro e w8 ⟨rfl, hb⟩; refine ⟨_, rfl, ?_⟩; replace HB := hbs_ hb; clear hb))
 go_ret
 exact ⟨by first | rfl | (simp; done), bl_⟩
theorem impl_LostAt.rdn (xs : List S54) (j : Nat) (hj : j < xs.length) : rd_T54 xs (j : Int) = xs[j] := by
 unfold rd_T54
 simp [List.getD_eq_getElem?_getD, hj]
set_option maxHeartbeats 4000000 in
set_option maxRecDepth 100000 in
theorem impl_LostAt.idx (p : S54 → Bool) (gb : Nat) (A0 : Option Addr) (c0 : Nat) (xs : List S54) (w : World) (hr : Kd.C k54 w A0 xs.length xs)
  (hp : ∀ (W : World) (x : S54), x ∈ xs → Below w.heap.size w W → Calls Try.prog 38 #[.agg #[.int .i64 x.f0.f0, .int .i64 x.f0.f1, .int .i64 x.f1], .pointer (some ⟨gb, 0, none⟩)] W fun e w' => e = .returned (.bool (p x)) ∧ Below W.heap.size W w') :
  Calls Try.prog 53 #[.slice A0 xs.length c0, .func (.func 38) #[] #[.pointer (some ⟨gb, 0, none⟩)]] w fun e w' => ∃ i : Int, e = .returned (.int .i64 i) ∧ ((i = -1 ∧ ∀ j : Nat, j < xs.length → p (rd_T54 xs j) = false) ∨ ∃ j : Nat, j < xs.length ∧ i = j ∧ p (rd_T54 xs j) = true ∧ ∀ m : Nat, m < j → p (rd_T54 xs m) = false) ∧ Below w.heap.size w w' := by
 have hue := Try.underlying54
 have eg : ∀ args w, (callFunc 38 args).run Try.prog w = .ok (.enter 38 args) w := enters_of Try.func38 (by kernel_rfl) rfl
 have HR0 := Aside0.mk hr
 have HP := Aside0.mk hp
 have HL := Aside0.mk hr.2.1
 clear hr hp
 go_enter Try.func53, Try.ntmps53
 go_wp2
 go_loopg [5, 8] xs.length (fun gg _ s8 wr => ∃ kk : Nat, kk ≤ xs.length ∧ xs.length - kk ≤ gg ∧ s8 = .int .i64 kk ∧ Aside0 (Below w.heap.size w wr) ∧ Aside0 (∀ j : Nat, j < kk → p (rd_T54 xs j) = false))
 case atStart => exact ⟨0, Nat.zero_le _, by omega, rfl, ⟨Below.refl _ w⟩, ⟨fun j hj => absurd hj (Nat.not_lt_zero _)⟩⟩
 case round =>
  obtain ⟨kk, hkk, hg, rfl, HB, HA⟩ := hrel
  by_cases hlt : kk < xs.length
  ·have hltz : (kk : Int) < (xs.length : Int) := by omega
   have h0z : (0 : Int) ≤ (kk : Int) := by omega
   have hll := HL.out
   obtain ⟨ad, e0, hx0, hx1, hx2⟩ := at_T54 (Kd.C_below HR0.out HB.out) (kk : Int) h0z hltz
   cases e0
   have hcall := HP.out wr (rd_T54 xs (kk : Int)) (by rw [impl_LostAt.rdn xs kk hlt]; exact List.getElem_mem hlt) HB.out
   simp only [Int.toNat_natCast] at hx0 hx1 hx2
   generalize hy : rd_T54 xs (kk : Int) = y at hx0 hx1 hx2 hcall
   have HY := Aside0.mk hy
   have HG := Aside0.mk hg
   clear hy hg
   cases hq : p y with
   | true =>
    rw [hq] at hcall
    go_wp2_with (go_at_fn 38; refine hcall.mono ?_; rintro e w' ⟨rfl, hb'⟩)
    go_ret
    refine ⟨_, rfl, .inr ⟨kk, hlt, rfl, by rw [HY.out]; exact hq, HA.out⟩, HB.out.trans (hb'.mono HB.out.size)⟩
   | false =>
    rw [hq] at hcall
    go_wp2_with (go_at_fn 38; refine hcall.mono ?_; rintro e w' ⟨rfl, hb'⟩)
    go_roundg (xs.length - (kk + 1))
    case measure => have := HG.out; omega
    case rel =>
     refine ⟨kk + 1, by omega, by omega, by go_num, ⟨HB.out.trans (hb'.mono HB.out.size)⟩, ⟨fun j hj => ?_⟩⟩
     by_cases e : j = kk
     ·subst e
      rw [HY.out]; exact hq
     ·exact HA.out j (by omega)
  ·have hltz : ¬ (kk : Int) < (xs.length : Int) := by omega
   have hkx : kk = xs.length := by omega
   go_wp2
   go_ret
   exact ⟨_, rfl, .inl ⟨rfl, fun j hj => HA.out j (by omega)⟩, HB.out⟩
theorem impl_LostAt.clear_any {P : Program} (w : World) (t e ty : TypeId) (z : Value) (ht : P.underlying t = some (.slice e)) (hv : ∀ w, (zeroValue e).run P w = .ok z w) (b o n c : Nat) (hn : 0 < n) (L : List Value) (hL : (Builtin.zeroCells z.cells n).toList = L) (h1 : ∀ u ∈ L, u.oneCell' = true)
  (hc : ∀ j, j < L.length → (w.cell? ⟨b, o + j, none⟩).isSome = true) (hf : ∀ j, j < L.length → w.frozen? ⟨b, o + j, none⟩ = false) :
  (Builtin.clear_ #[t] ty #[.slice (some ⟨b, o, none⟩) n c]).run P w = .ok (.tuple #[]) (w.setCells b o L) := by
 have hst := run_storeCells_cells (P := P) b o L 0 w (by simpa using hc) (by simpa using hf) h1
 simp only [Nat.add_zero] at hst
 obtain ⟨m, rfl⟩ : ∃ m, n = m + 1 := ⟨n - 1, by omega⟩
 simp [Builtin.clear_, run_underlying ht, hv, hL, hst]
theorem impl_LostAt.spare {α : Type} {d : Kd α} {e : Nat} {w : World} {base : Nat} {ok : Nat → Prop} {g n c : Nat} {xs : List α} (h : d.R e w base ok (.slice (some ⟨g, 0, none⟩) n c) xs) (o : Nat) (L : List Value) (ho : n * d.sz ≤ o) (hfit : o + L.length ≤ c * d.sz) :
  d.R e (w.setCells g o L) base ok (.slice (some ⟨g, 0, none⟩) n c) xs ∧ w.grownBy (w.setCells g o L) (some g) ∧ (∀ j, j < L.length → (w.cell? ⟨g, o + j, none⟩).isSome = true ∧ w.frozen? ⟨g, o + j, none⟩ = false) := by
 obtain ⟨hn, hnc, _⟩ := Kd.R_reads' h
 obtain ⟨hok, inner, hown, hr⟩ := h
 rcases hown.2 with ⟨hv, _⟩ | ⟨g', cap', cur, hv, hb, hh, h3, hcm, hcs, htake⟩
 ·cases hv
 injection hv with ha _ hc
 injection ha with ha
 injection ha with hg
 subst hg; subst hc
 rw [← hn] at htake
 have hf : o + L.length ≤ cur.size := by omega
 obtain ⟨cur', q1, q2, q3⟩ := setCells_row L o w cur hh hf
 obtain ⟨s1, s2, s3, s4⟩ := setCells_same g L o w
 have hfar : ∀ k', k' ≠ g → (w.setCells g o L).heap[k']? = w.heap[k']? := fun k' hk' => setCells_far L _ k' hk'
 refine ⟨⟨hok, inner, ⟨hown.1, .inr ⟨g, c, cur', by rw [← hn], hb, q1, by rw [← hn]; exact hnc, hcm, by rw [q2, hcs], ?_⟩⟩, ?_⟩, ⟨s1, s2, s3, by rw [s4]; exact Nat.le_refl _, fun k' _ hk' => hfar k' (fun he => hk' (by rw [he]))⟩, ?_⟩
 ·rw [q3, ← hn, List.append_assoc, List.take_append_of_le_length (by rw [List.length_take, Array.length_toList]; omega), List.take_take, Nat.min_eq_left ho, htake]
 ·exact hr.imp_ (fun p q hp => d.M_move (fun k' hk' => hfar k' (fun he => hk'.2 (by simp [Value.ownBlock, he]))) hp)
 ·intro j hj
  rw [cell_of_row w g _ cur e (0, 0) hh]
  exact ⟨by simp; omega, blk_frozen hh _⟩
theorem impl_LostAt.zval (w : World) : (zeroValue 54).run Try.prog w = .ok (Value.agg #[(.int .i64 0), (.int .i64 0), (.int .i64 0)]) w := by kernel_rfl
theorem impl_LostAt.zone (n : Nat) : ((Builtin.zeroCells (Value.agg #[(.int .i64 0), (.int .i64 0), (.int .i64 0)]).cells n).toList.length = n * 3) ∧ ∀ u ∈ (Builtin.zeroCells (Value.agg #[(.int .i64 0), (.int .i64 0), (.int .i64 0)]).cells n).toList, u.oneCell' = true := by
 have e : (Value.agg #[(.int .i64 0), (.int .i64 0), (.int .i64 0)]).cells = #[(.int .i64 0), (.int .i64 0), (.int .i64 0)] := by kernel_rfl
 rw [e]
 refine ⟨by simp [Builtin.zeroCells], fun u hu => ?_⟩
 unfold Builtin.zeroCells at hu
 simp only [Array.toList_map, List.mem_map] at hu
 obtain ⟨i, _, rfl⟩ := hu
 show (#[(Value.int .i64 0), (.int .i64 0), (.int .i64 0)][i % 3]!).oneCell' = true
 have h3 : i % 3 = 0 ∨ i % 3 = 1 ∨ i % 3 = 2 := by omega
 rcases h3 with h | h | h <;> rw [h] <;> rfl
structure impl_LostAt.Inv (p : S54 → Bool) (xs : List S54) (i j : Nat) (dk : List S54) : Prop where
 len : dk.length = xs.length
 lt : i < j
 le : j ≤ xs.length
 low : dk.take i = (xs.take j).filter fun x => !p x
 high : dk.drop j = xs.drop j
theorem impl_LostAt.Inv.at {p : S54 → Bool} {xs dk : List S54} {i j : Nat} (h : impl_LostAt.Inv p xs i j dk) (hj : j < xs.length) (z : S54) : dk.getD j z = xs.getD j z := by
 have h1 := h.high
 have hl := h.len
 rw [List.drop_eq_getElem_cons hj, List.drop_eq_getElem_cons (by omega)] at h1
 injection h1 with h1 _
 rw [List.getD_eq_getElem?_getD, List.getD_eq_getElem?_getD, List.getElem?_eq_getElem hj, List.getElem?_eq_getElem (by omega), h1]
theorem impl_LostAt.Inv.skip {p : S54 → Bool} {xs dk : List S54} {i j : Nat} (h : impl_LostAt.Inv p xs i j dk) (hj : j < xs.length) (hp : p xs[j] = true) : impl_LostAt.Inv p xs i (j + 1) dk where
 len := h.len
 lt := by have := h.lt; omega
 le := hj
 low := by rw [h.low, List.take_succ_eq_append_getElem hj, List.filter_append]; simp [hp]
 high := by
  have h1 := congrArg (List.drop 1) h.high
  rw [List.drop_drop, List.drop_drop] at h1
  exact h1
theorem impl_LostAt.Inv.keep {p : S54 → Bool} {xs dk : List S54} {i j : Nat} (h : impl_LostAt.Inv p xs i j dk) (hj : j < xs.length) (hp : p xs[j] = false) : impl_LostAt.Inv p xs (i + 1) (j + 1) (dk.set i xs[j]) where
 len := by rw [List.length_set]; exact h.len
 lt := by have := h.lt; omega
 le := hj
 low := by
  have hi : i < dk.length := by have := h.lt; have := h.len; omega
  rw [List.take_succ_eq_append_getElem (by rw [List.length_set]; exact hi), List.getElem_set_self, List.take_set_of_le (Nat.le_refl _), h.low, List.take_succ_eq_append_getElem hj, List.filter_append]
  simp [hp]
 high := by
  rw [List.drop_set_of_lt (by have := h.lt; omega)]
  have h1 := congrArg (List.drop 1) h.high
  rw [List.drop_drop, List.drop_drop] at h1
  exact h1
theorem impl_LostAt.Inv.start {p : S54 → Bool} {xs : List S54} {j : Nat} (hj : j < xs.length) (hp : p xs[j] = true) (h : ∀ m (hm : m < j), p (xs[m]'(by omega)) = false) : impl_LostAt.Inv p xs j (j + 1) xs where
 len := rfl
 lt := Nat.lt_succ_self _
 le := hj
 low := by
  rw [List.take_succ_eq_append_getElem hj, List.filter_append]
  have e : (xs.take j).filter (fun x => !p x) = xs.take j := by
   rw [List.filter_eq_self]
   intro a ha
   obtain ⟨m, hm, rfl⟩ := List.mem_iff_getElem.1 ha
   rw [List.getElem_take]
   rw [List.length_take] at hm
   simp [h m (by omega)]
  rw [e]
  simp [hp]
 high := rfl
set_option maxHeartbeats 4000000 in
set_option maxRecDepth 100000 in
theorem impl_LostAt.del {w : World} {base : Nat} {ok : Nat → Prop} (p : S54 → Bool) (gb g n c : Nat) (xs : List S54) (HO : Kd.R k54 54 w base ok (.slice (some ⟨g, 0, none⟩) n c) xs)
  (hp : ∀ (W : World) (x : S54), x ∈ xs → w.grownBy W (some g) → Calls Try.prog 38 #[.agg #[.int .i64 x.f0.f0, .int .i64 x.f0.f1, .int .i64 x.f1], .pointer (some ⟨gb, 0, none⟩)] W fun e w' => e = .returned (.bool (p x)) ∧ Below W.heap.size W w') :
  Calls Try.prog 37 #[.slice (some ⟨g, 0, none⟩) n c, .func (.func 38) #[] #[.pointer (some ⟨gb, 0, none⟩)]] w fun e w' => ∃ m : Nat, e = .returned (.slice (some ⟨g, 0, none⟩) m c) ∧ Kd.R k54 54 w' base ok (.slice (some ⟨g, 0, none⟩) m c) (xs.filter fun x => !p x) ∧ w.grownBy w' (some g) := by
 have hcm : c ≤ 9223372036854775807 := by
  obtain ⟨_, inner, hown, _⟩ := HO
  rcases hown.2 with ⟨hv, _⟩ | ⟨g', cap', cur, hv, _, _, _, h, _⟩
  ·cases hv
  ·injection hv with _ _ hc
   subst hc
   simpa [maxLen] using h
 obtain ⟨en, hnc, hC⟩ := Kd.R_reads' HO
 subst en
 have hue := Try.underlying54
 have hus := Try.underlying38
 have eg : ∀ args w, (callFunc 38 args).run Try.prog w = .ok (.enter 38 args) w := enters_of Try.func38 (by kernel_rfl) rfl
 have HR0 := Aside0.mk HO
 have HP := Aside0.mk hp
 have HC := Aside0.mk hC
 have HI := Aside0.mk (impl_LostAt.idx p gb (some ⟨g, 0, none⟩) c xs w hC (fun W x hx hW => hp W x hx (grown_of_below hW _)))
 have hl : xs.length ≤ 9223372036854775807 := by omega
 clear HO hp hC
 go_enter Try.func37, Try.ntmps37
 have eg2 : ∀ args w, (callFunc 53 args).run Try.prog w = .ok (.enter 53 args) w := enters_of Try.func53 (by kernel_rfl) rfl
 go_wp2_with fail
 go_at_fn 53
 refine HI.out.mono ?_
 rintro e w1 ⟨i, rfl, hcase, hb⟩
 clear HI
 have HB1 := Aside0.mk hb
 clear hb
 rcases hcase with ⟨rfl, hall⟩ | ⟨j0, hj0, rfl, hpj, hlow⟩
 ·have HA := Aside0.mk hall
  clear hall
  go_wp2
  go_ret
  refine ⟨_, rfl, ?_, grown_of_below HB1.out _⟩
  have e : (xs.filter fun x => !p x) = xs := by
   rw [List.filter_eq_self]
   intro a ha
   obtain ⟨m, hm, rfl⟩ := List.mem_iff_getElem.1 ha
   have := HA.out m hm
   rw [impl_LostAt.rdn xs m hm] at this
   simp [this]
  rw [e]
  exact Kd.R_below HR0.out HB1.out
 ·have HV := Aside0.mk (impl_LostAt.Inv.start (p := p) hj0 (by rw [← impl_LostAt.rdn xs j0 hj0]; exact hpj) (fun m hm => by rw [← impl_LostAt.rdn xs m (by omega)]; exact hlow m hm))
  clear hpj hlow
  have hne : ¬ ((j0 : Int) = -1) := by omega
  go_wp2
  go_loopg [5, 6] xs.length (fun gg s5 s6 wr => ∃ (i j : Nat) (dk : List S54), s5 = .int .i64 i ∧ s6 = .int .i64 j ∧ Aside0 (impl_LostAt.Inv p xs i j dk) ∧ Aside0 (xs.length - j ≤ gg) ∧ Aside0 (Kd.R k54 54 wr base ok (.slice (some ⟨g, 0, none⟩) xs.length c) dk) ∧ Aside0 (w.grownBy wr (some g)))
  case atStart => 
   exact ⟨j0, j0 + 1, xs, rfl, by go_num, HV, ⟨by omega⟩, ⟨Kd.R_below HR0.out HB1.out⟩, ⟨grown_of_below HB1.out _⟩⟩
  case round =>
   obtain ⟨i, j, dk, rfl, rfl, HV2, HM, HR, HG⟩ := hrel
   have hij := HV2.out.lt
   have hjl := HV2.out.le
   have hdl := HV2.out.len
   by_cases hlt : j < xs.length
   ·have hltz : (j : Int) < (xs.length : Int) := by omega
    have h0z : (0 : Int) ≤ (j : Int) := by omega
    have h0i : (0 : Int) ≤ (i : Int) := by omega
    have hiz : (i : Int) < (xs.length : Int) := by omega
    have HW := Aside0.mk (Below.refl wr.heap.size wr)
    obtain ⟨ad, e0, hx0, hx1, hx2⟩ := at_T54 (Kd.R_reads' HR.out).2.2 (j : Int) h0z (by omega)
    cases e0
    simp only [Int.toNat_natCast, add_plain] at hx0 hx1 hx2
    have hrd : rd_T54 dk (j : Int) = xs[j] := by
     rw [impl_LostAt.rdn dk j (by omega)]
     have h := HV2.out.at hlt xs[j]
     rw [List.getD_eq_getElem?_getD, List.getD_eq_getElem?_getD, List.getElem?_eq_getElem hlt, List.getElem?_eq_getElem (by omega : j < dk.length)] at h
     simpa using h
    rw [hrd] at hx0 hx1 hx2
    obtain ⟨y, hy⟩ : ∃ y, y = xs[j] := ⟨_, rfl⟩
    rw [← hy] at hx0 hx1 hx2
    have HY := Aside0.mk hy
    clear hy hrd
    go_wp2_with (first | ((with_reducible refine gate_dst (N := 7) rfl ?_); refine box_event ?hg (N := 7) ?hd (cs := #[.int .i64 0, .int .i64 0, .int .i64 0]) (t := 54) ?hr ?_; (case hd => rfl); (case hg => rfl); (case hr => first | (go_simp; done) | (go_simp; rfl)); intro gv hg w3 hbox hb; have BV := Aside0.mk hbox; have GV := Aside0.mk (show wr.heap.size ≤ gv by rw [hg]; exact Nat.le_refl _); have HW3 := Aside0.mk hb; clear hb hbox hg; have hcz3 := blk_cell BV.out; have hfz3 := blk_frozen BV.out) | ((with_reducible refine gate_store (t := 54) (p := 7) rfl ?_); refine store_event (t := 54) (p := 7) (v := ?vo_) (w1 := (((w3.setCell ⟨gv, 0, none⟩ (.int .i64 y.f0.f0)).setCell ⟨gv, 1, none⟩ (.int .i64 y.f0.f1)).setCell ⟨gv, 2, none⟩ (.int .i64 y.f1))) ?hg ?ho ?hn ?hr ?_; (case ho => rfl); (case hg => rfl); (case hn => rfl); (case hr => first | (go_simp; done) | (go_simp; rfl)); intro w4 hw; have BV4 := Aside0.mk (show w4.heap[gv]? = some (.cells #[.int .i64 y.f0.f0, .int .i64 y.f0.f1, .int .i64 y.f1] 54 (0, 0)) by rw [hw]; exact (bk_ BV)); have HW4 := Aside0.mk (show Below wr.heap.size wr w4 by rw [hw]; exact below_set (below_set (below_set HW3.out GV.out) GV.out) GV.out); clear hw hcz3 hfz3; have hcz4 := blk_cell BV4.out; have hfz4 := blk_frozen BV4.out))
    have hcall := HP.out w4 y (by rw [HY.out]; exact List.getElem_mem hlt) (HG.out.trans (grown_of_below HW4.out _))
    cases hq : p y with
    | true =>
     rw [hq] at hcall
     refine hcall.mono ?_
     rintro e w5 ⟨rfl, hb5⟩
     have HW5 := Aside0.mk (HW4.out.trans (hb5.mono HW4.out.size))
     clear hb5 hcz4 hfz4 hcall
     go_wp2
     go_roundg (xs.length - (j + 1))
     case measure => have := HM.out; omega
     case rel => exact ⟨i, j + 1, dk, rfl, by go_num, ⟨HV2.out.skip hlt (by rw [← HY.out]; exact hq)⟩, ⟨by omega⟩, ⟨Kd.R_below HR.out HW5.out⟩, ⟨HG.out.trans (grown_of_below HW5.out _)⟩⟩
    | false =>
     rw [hq] at hcall
     refine hcall.mono ?_
     rintro e w5 ⟨rfl, hb5⟩
     have HW5 := Aside0.mk (HW4.out.trans (hb5.mono HW4.out.size))
     have BV5 := Aside0.mk (blk_below BV4.out hb5)
     clear hb5 hcz4 hfz4 hcall
     have hcz5 := blk_cell BV5.out
     have hfz5 := blk_frozen BV5.out
     have HR5 := Aside0.mk (Kd.R_below HR.out HW5.out)
     obtain ⟨ce, hcl, hM, hcc, hfr⟩ := Kd.R_elem HR5.out z54 (i : Int) h0i hiz
     obtain rfl := k54_openM hM
     have HP5 := Kd.R_seg HR5.out (i : Int) h0i hiz (seg := [.int .i64 y.f0.f0, .int .i64 y.f0.f1, .int .i64 y.f1]) (j := 0) hcl hcc (show 3 ≤ 3 from by decide) (x' := y) (k54_mkM _ _ _ y) (fun _ hk => hk)
     have hy0 := hcc 0 _ rfl
     have hy1 := hcc 1 _ rfl
     have hy2 := hcc 2 _ rfl
     have hz0 := hfr 0
     have hz1 := hfr 1
     have hz2 := hfr 2
     simp only [show (k54).sz = 3 from rfl, Int.toNat_natCast, Nat.add_zero] at hy0 hy1 hy2 hz0 hz1 hz2
     clear hcl hcc hfr hM
     have HX5 := Aside0.mk HP5
     clear HP5
     go_wp2
     go_roundg (xs.length - (j + 1))
     case measure => have := HM.out; omega
     case rel => exact ⟨i + 1, j + 1, dk.set i y, by go_num, by go_num, ⟨by rw [HY.out]; exact HV2.out.keep hlt (by rw [← HY.out]; exact hq)⟩, ⟨by omega⟩, ⟨HX5.out.1⟩, ⟨(HG.out.trans (grown_of_below HW5.out _)).trans HX5.out.2⟩⟩
   ·have hjx : j = xs.length := by omega
    subst hjx
    have hltz : ¬ (xs.length : Int) < (xs.length : Int) := by omega
    have h0i : (0 : Int) ≤ (i : Int) := by omega
    have hix : (i : Int) ≤ (xs.length : Int) := by omega
    have hic : i ≤ c := by omega
    have hixn : i ≤ xs.length := by omega
    obtain ⟨L, hL⟩ : ∃ L : List Value, L = (Builtin.zeroCells (Value.agg #[(.int .i64 0), (.int .i64 0), (.int .i64 0)]).cells (xs.length - i)).toList := ⟨_, rfl⟩
    obtain ⟨hL1, hL2⟩ := impl_LostAt.zone (xs.length - i)
    rw [← hL] at hL1 hL2
    have hRi := Kd.R_take HR.out (m := i) (by omega)
    obtain ⟨hS1, hS2, hS3⟩ := impl_LostAt.spare hRi (i * 3) L (Nat.le_refl _) (by show i * 3 + L.length ≤ c * 3; omega)
    have hcl : ∀ ty, (Builtin.clear_ #[38] ty #[.slice (some ⟨g, i * 3, none⟩) (xs.length - i) (c - i)]).run Try.prog wr = .ok (.tuple #[]) (wr.setCells g (i * 3) L) := fun ty => impl_LostAt.clear_any wr 38 54 ty _ Try.underlying38 impl_LostAt.zval g (i * 3) (xs.length - i) (c - i) (by omega) L hL.symm hL2 (fun j hj => (hS3 j hj).1) (fun j hj => (hS3 j hj).2)
    have HS1 := Aside0.mk hS1
    have HS2 := Aside0.mk hS2
    have HLW := Aside0.mk HV2.out.low
    clear hS1 hS2 hS3 hL hL1 hL2 hRi
    go_wp2
    go_ret
    refine ⟨i, rfl, ?_, HG.out.trans HS2.out⟩
    have e := HLW.out
    rw [List.take_length] at e
    rw [← e]
    exact HS1.out
set_option maxHeartbeats 4000000 in
set_option maxRecDepth 100000 in
theorem impl_LostAt.del_nil {w : World} (gb c : Nat) (A : Option Addr) (hC : Kd.C k54 w A ([] : List S54).length []) :
  Calls Try.prog 37 #[.slice A 0 c, .func (.func 38) #[] #[.pointer (some ⟨gb, 0, none⟩)]] w fun e w' => e = .returned (.slice A 0 c) ∧ Below w.heap.size w w' := by
 have hue := Try.underlying54
 have hus := Try.underlying38
 have eg2 : ∀ args w, (callFunc 53 args).run Try.prog w = .ok (.enter 53 args) w := enters_of Try.func53 (by kernel_rfl) rfl
 have HI := Aside0.mk (impl_LostAt.idx (fun _ => true) gb A c [] w hC (fun W x hx hW => by cases hx))
 clear hC
 go_enter Try.func37, Try.ntmps37
 go_wp2_with fail
 go_at_fn 53
 refine HI.out.mono ?_
 rintro e w1 ⟨i, rfl, hcase, hb⟩
 clear HI
 have HB1 := Aside0.mk hb
 clear hb
 rcases hcase with ⟨rfl, hall⟩ | ⟨j0, hj0, rfl, hpj, hlow⟩
 ·clear hall
  go_wp2
  go_ret
  exact ⟨rfl, HB1.out⟩
 ·cases hj0
set_option maxHeartbeats 4000000 in
set_option maxRecDepth 100000 in
theorem impl_LostAt.last (k : Nat) (gs : Nat) (A1 : Option Addr) (c1 : Nat) (t1 t2 : List S54) (v2 : Value) (w4 w5 : World) (hbox : w4.heap[gs]? = some (.cells #[.slice A1 t1.length c1] 38 (0, 0))) (hr1 : Kd.C k54 w4 A1 t1.length t1) (hc1 : t1.length ≤ c1)
  (hb : Below w4.heap.size w4 w5) (hr2 : Kd.R k54 54 w5 w4.heap.size (fun _ => True) v2 t2) (hk : ∀ x ∈ t2, (impl_Fact_39.f k t1 x.f0.f0 x.f0.f1 x.f1).isSome = true) :
  Calls Try.prog 37 #[v2, .func (.func 38) #[] #[.pointer (some ⟨gs, 0, none⟩)]] w5 fun e w' => ∃ v0_ : Value, e = .returned v0_ ∧ Kd.R k54 54 w' w4.heap.size (fun _ => True) v0_ (t2.filter fun x => !impl_LostAt.keep k t1 x) ∧ Below w4.heap.size w4 w' := by
 by_cases hn : 0 < t2.length
 ·obtain ⟨g, cap, rfl, hg, _, _⟩ := Kd.R_form hr2 hn
  refine (impl_LostAt.del (impl_LostAt.keep k t1) gs g t2.length cap t2 hr2 (fun W x hx hW => ?_)).mono ?_
  ·have hW4 := hb.grown hW hb.size (fun j hj => by injection hj with hj; omega)
   refine (impl_LostAt.clo k gs A1 c1 t1 x (impl_LostAt.keep k t1 x) W (blk_below hbox hW4) (Kd.C_below hr1 hW4) hc1 ?_).mono (fun e w' h => h)
   obtain ⟨b, e⟩ := Option.isSome_iff_exists.1 (hk x hx)
   unfold impl_LostAt.keep
   rw [e]
   rfl
  ·rintro e w' ⟨m, rfl, hR, hG⟩
   exact ⟨_, rfl, hR, hb.grown hG hb.size (fun j hj => by injection hj with hj; omega)⟩
 ·have e : t2 = [] := List.length_eq_zero_iff.1 (by omega)
  subst e
  obtain ⟨A2, c2, rfl⟩ := Kd.R_slice hr2
  refine (impl_LostAt.del_nil gs c2 A2 (Kd.R_reads' hr2).2.2).mono ?_
  rintro e w' ⟨rfl, hb'⟩
  exact ⟨_, rfl, Kd.R_below hr2 hb', hb.trans (hb'.mono hb.size)⟩
set_option maxHeartbeats 4000000 in
set_option maxRecDepth 100000 in
theorem impl_LostAt.calls (k : Nat) (A0 : Option Addr) (c0 : Nat) (l0 : List (S48)) (a1 : Int) (r : List (S54)) (w : World) (hr0 : Kd.C k48 w A0 l0.length l0) (hc0 : l0.length ≤ c0) (h : impl_LostAt.f k l0 a1 = some r) :
  Calls Try.prog 18 #[.slice A0 l0.length c0, .int .i64 a1] w fun e w' => ∃ v0_ : Value, e = .returned (v0_) ∧ Kd.R k54 54 w' w.heap.size (fun _ => True) v0_ r ∧ Below w.heap.size w w' := by
 have hue := Try.underlying54
 have hus := Try.underlying38
 have hmf : ∀ (fn : Fn) (first cap : Array Value) (w : World), (Instr.makeFunc fn first cap).run Try.prog w = .ok (.func fn first cap) w := fun _ _ _ _ => rfl
 have eg2 : ∀ args w, (callFunc 37 args).run Try.prog w = .ok (.enter 37 args) w := enters_of Try.func37 (by kernel_rfl) rfl
 have HR0 := Aside0.mk hr0
 have HC0 := Aside0.mk hc0
 clear hr0 hc0
 unfold impl_LostAt.f at h
 by_cases hin : -1000000 ≤ a1 ∧ a1 ≤ 1000000
 ·rw [if_pos hin] at h
  have H := Aside0.mk h
  clear h
  have HI := Aside0.mk (show impl_in.f a1 (-1000000) 1000000 = some true by unfold impl_in.f; rw [if_pos hin.1]; simp; exact hin.2)
  obtain ⟨hi1, hi2⟩ := hin
  have H := H.out
  obtain ⟨t1, A1, H⟩ := bindE_ H
  obtain ⟨t2, A2, H⟩ := bindE_ H
  have HO := Aside0.mk H
  clear H
  go_enter Try.func18, Try.ntmps18
  have HB0 := Aside0.mk (Below.refl w.heap.size w)
  go_wp2_with (first | ((with_reducible refine gate_callee (f := 36) rfl ?_); refine goesC_ (some 7) Try.func36 #[.int .i64 a1, .int .i64 (-1000000), .int .i64 1000000] ?_; (with_reducible refine (impl_in.calls a1 (-1000000) 1000000 true _ HI.out).mono ?_); rintro e w' ⟨rfl, ⟨nd, rfl⟩⟩; refine ⟨_, rfl, ?_⟩) | ((with_reducible refine gate_callee (f := 16) rfl ?_); refine goesC_ (some 11) Try.func16 #[.slice A0 l0.length c0, .int .i64 a1] ?_; (with_reducible refine (impl_StillAt.calls k _ _ l0 a1 t1 _ ?side1 ?side2 A1.out).mono ?_); (case side1 => exact Kd.C_below HR0.out (pw_below_drewN HB0.out nd)); (case side2 => exact HC0.out); rintro e w1 ⟨v1, rfl, ho, hb⟩; refine ⟨_, rfl, ?_⟩; obtain ⟨As, cs, ev⟩ := Kd.R_slice ho; subst ev; have HO1 := Aside0.mk ho; have HB1 := Aside0.mk (show Below w.heap.size w w1 from (pw_below_drewN HB0.out nd).trans hb); clear ho hb) | ((with_reducible refine gate_dst (N := 5) rfl ?_); refine box_event ?hg (N := 5) ?hd (cs := #[.slice none 0 0]) (t := 38) ?hr ?_; (case hd => rfl); (case hg => rfl); (case hr => first | (go_simp; done) | (go_simp; rfl)); intro gs hg w2 hbox hb; have BS := Aside0.mk hbox; have GS := Aside0.mk (show w1.heap.size ≤ gs by rw [hg]; exact Nat.le_refl _); have HB2 := Aside0.mk hb; clear hb hbox hg; have hcz2 := blk_cell BS.out; have hfz2 := blk_frozen BS.out) | ((with_reducible refine gate_store (t := 38) (p := 5) rfl ?_); refine store_event (t := 38) (p := 5) (v := ?vo_) (w1 := (w2.setCell ⟨gs, 0, none⟩ (.slice As t1.length cs))) ?hg ?ho ?hn ?hr ?_; (case ho => rfl); (case hg => rfl); (case hn => rfl); (case hr => first | (go_simp; done) | (go_simp; rfl)); intro w4 hw; have BS4 := Aside0.mk (show w4.heap[gs]? = some (.cells #[.slice As t1.length cs] 38 (0, 0)) by rw [hw]; exact (bk_ BS)); have HB4 := Aside0.mk (show Below w1.heap.size w1 w4 by rw [hw]; exact below_set HB2.out GS.out); clear hw hcz2 hfz2) | ((with_reducible refine gate_callee (f := 16) rfl ?_); refine goesC_ (some 15) Try.func16 #[.slice A0 l0.length c0, .int .i64 (a1 - 1)] ?_; (with_reducible refine (impl_StillAt.calls k _ _ l0 (a1 - 1) t2 _ ?side1 ?side2 A2.out).mono ?_); (case side1 => exact Kd.C_below HR0.out (HB1.out.trans (HB4.out.mono HB1.out.size))); (case side2 => exact HC0.out); rintro e w5 ⟨v2, rfl, ho, hb⟩; refine ⟨_, rfl, ?_⟩; have HO2 := Aside0.mk ho; have HB5 := Aside0.mk hb; clear ho hb))
  have h := HO.out
  unfold impl_LostAt.out at h
  by_cases hk : ∀ x ∈ t2, (impl_Fact_39.f k t1 x.f0.f0 x.f0.f1 x.f1).isSome = true
  ·rw [if_pos hk] at h
   obtain rfl := Option.some.inj h
   have HB14 := HB1.out.trans (HB4.out.mono HB1.out.size)
   have hC1 := (Kd.R_reads' (Kd.R_below HO1.out HB4.out)).2
   refine (impl_LostAt.last k gs As cs t1 t2 v2 w4 w5 BS4.out hC1.2 hC1.1 HB5.out HO2.out hk).mono ?_
   rintro e w6 ⟨v, rfl, hR, hb⟩
   have HR6 := Aside0.mk (Kd.R_lower hR HB14.size)
   have HB6 := Aside0.mk (HB14.trans (hb.mono HB14.size))
   clear hR hb
   go_wp2
   go_ret
   exact ⟨_, rfl, HR6.out, HB6.out⟩
  ·rw [if_neg hk] at h
   cases h
 ·rw [if_neg hin] at h
  obtain rfl := Option.some.inj h
  have HI := Aside0.mk (show impl_in.f a1 (-1000000) 1000000 = some false by
   unfold impl_in.f
   by_cases h0 : a1 ≥ -1000000
   ·rw [if_pos h0]; simp; omega
   ·rw [if_neg h0])
  clear hin
  go_enter Try.func18, Try.ntmps18
  go_wp2_with (first | ((with_reducible refine gate_callee (f := 36) rfl ?_); refine goesC_ (some 7) Try.func36 #[.int .i64 a1, .int .i64 (-1000000), .int .i64 1000000] ?_; (with_reducible refine (impl_in.calls a1 (-1000000) 1000000 false _ HI.out).mono ?_); rintro e w' ⟨rfl, ⟨nd, rfl⟩⟩; refine ⟨_, rfl, ?_⟩))
  go_ret
  exact ⟨_, rfl, Kd.R_nil _ _ _ _ _, pw_below_drewN (Below.refl _ _) nd⟩
def spec_LostAt.l0 : Nat → List (S54) → List (S54) → List (S54) → Int → Option ((List (S54)))
 | 0, _, _, _, _ => none
 | k + 1, x5, x6, x7, x8 => if x8 < (x6.length : Int) then (if 0 ≤ x8 then ((spec_l06Has.f k x7 ((rd_T54 x6 x8).f0.f0) ((rd_T54 x6 x8).f0.f1) ((rd_T54 x6 x8).f1)).bind fun t620 => (if t620 = true then (spec_LostAt.l0 k x5 x6 x7 (wrap64 (x8 + 1))) else (if x5.length < 5864062014805 then (spec_LostAt.l0 k (x5 ++ [(⟨(⟨(rd_T54 x6 x8).f0.f0, (rd_T54 x6 x8).f0.f1⟩ : S26), (rd_T54 x6 x8).f1⟩ : S54)]) x6 x7 (wrap64 (x8 + 1))) else (none)))) else (none)) else (some x5)
def spec_LostAt.f (k : Nat) (l0 : List (S48)) (a1 : Int) : Option ((List (S54))) := (some (([] : List (S54)) : List (S54))).bind fun y609 => ((spec_l01In.f a1 (-1000000) 1000000).bind fun t612 => (if t612 = true then ((spec_StillAt.f k l0 (wrap64 (a1 - 1))).bind fun t613 => ((spec_StillAt.f k l0 a1).bind fun t616 => (spec_LostAt.l0 k y609 t613 t616 0))) else (some y609)))
set_option maxHeartbeats 8000000 in
set_option maxRecDepth 100000 in
theorem spec_LostAt.calls (k : Nat) (A0 : Option Addr) (c0 : Nat) (l0 : List (S48)) (a1 : Int) (r : List (S54)) (w : World) (hr0 : Kd.C k48 w A0 l0.length l0) (hc0 : l0.length ≤ c0) (h : spec_LostAt.f k l0 a1 = some r) :
  Calls Try.prog 19 #[.slice A0 l0.length c0, .int .i64 a1] w fun e w' => ∃ v0_ : Value, e = .returned (v0_) ∧ Kd.R k54 54 w' w.heap.size (fun _ => True) v0_ r ∧ Below w.heap.size w w' := by
 have hu54 := Try.underlying54
 have HR0 := Aside0.mk hr0
 have HC0 := Aside0.mk hc0
 clear hr0 hc0
 have HB := Aside0.mk (Below.refl w.heap.size w)
 have H : ((some (([] : List (S54)) : List (S54))).bind fun y609 => ((spec_l01In.f a1 (-1000000) 1000000).bind fun t612 => (if t612 = true then ((spec_StillAt.f k l0 (wrap64 (a1 - 1))).bind fun t613 => ((spec_StillAt.f k l0 a1).bind fun t616 => (spec_LostAt.l0 k y609 t613 t616 0))) else (some y609)))) = some r := h
 clear h
 obtain ⟨y609, hy609⟩ : ∃ y_ : List (S54), y_ = (([] : List (S54))) := ⟨_, rfl⟩
 replace H : ((spec_l01In.f a1 (-1000000) 1000000).bind fun t612 => (if t612 = true then ((spec_StillAt.f k l0 (wrap64 (a1 - 1))).bind fun t613 => ((spec_StillAt.f k l0 a1).bind fun t616 => (spec_LostAt.l0 k y609 t613 t616 0))) else (some y609))) = some r := by first | (rw [hy609]; with_reducible exact H) | (have H2_ := (Option.bind_some _ _).symm.trans H; rw [hy609]; with_reducible exact H2_) | (have H2_ := (Option.bind_some _ _).symm.trans H; with_reducible exact H2_) | with_reducible exact H | (rw [hy609]; exact H) | exact H
 have Ny609 := Aside0.mk hy609
 clear hy609
 obtain ⟨t612, A3, H⟩ := bindE_ H
 by_cases c4 : t612 = true
 ·subst c4
  replace H := ite_t_ H
  obtain ⟨t613, A5, H⟩ := bindE_ H
  obtain ⟨t616, A6, H⟩ := bindE_ H
  have H' := Aside0.mk H
  clear H
  go_enter Try.func19, Try.ntmps19
  go_wp2_with (first | ((with_reducible refine gate_dst (N := 9) rfl ?_); refine Kd.R_lit k54 _ 54 ?hg (N := 9) ?hd (xs := ([] : List (S54))) (inner := []) (ok := fun _ => True) (okp := fun _ => True) ?hr ?hp (fun _ hk => hk) trivial (Below.refl _ _) (Nat.le_refl _) (by simp) ?_; (case hd => rfl); (case hg => rfl); (case hr => first | (go_simp; done) | (go_simp; rfl)); (case hp => exact (Reps.none _ _)); intro v610 w7 ho8 hb hg_ hnew_; clear hg_ hnew_; (first | rw [← Ny609.out] at ho8 | (simp only [Int.reduceToNat] at ho8; rw [← Ny609.out] at ho8)); have HO611 := Aside0.mk (Kd.R_lower ho8 bls_); replace HB := hbs_ hb; clear hb ho8) | ((with_reducible refine gate_callee (f := 40) rfl ?_); refine goesC_ (some 11) Try.func40 #[.int .i64 a1, .int .i64 (-1000000), .int .i64 1000000] ?_; (with_reducible refine (spec_l01In.calls a1 (-1000000) 1000000 true _ A3.out).mono ?_); rintro e w' ⟨rfl, ⟨nd, rfl⟩⟩; refine ⟨_, rfl, ?_⟩) | ((with_reducible refine gate_callee (f := 17) rfl ?_); refine goesC_ (some 17) Try.func17 #[.slice A0 l0.length c0, .int .i64 (wrap64 (a1 - 1))] ?_; (with_reducible refine (spec_StillAt.calls k _ _ l0 (wrap64 (a1 - 1)) t613 _ ?side1 ?side2 A5.out).mono ?_); (case side1 => repeat (first | exact (Kd.C_below HR0.out bl_) | (with_reducible refine Kd.C_alloc ?_ _) | (with_reducible refine Kd.C_drewN ?_ _) | (with_reducible refine Kd.C_drew ?_))); (case side2 => exact HC0.out); rintro e w9 ⟨v614, rfl, ho0, hb⟩; refine ⟨_, rfl, ?_⟩; have HO615 := Aside0.mk (Kd.R_lower (Kd.R_new' ho0 (Kd.R_lt (by (with_reducible repeat (first | apply Kd.R_alloc | apply Kd.R_drewN | apply Kd.R_drew)); exact HO611.out))) bls_); replace HO611 := Aside0.mk (Kd.R_elder' (by (with_reducible repeat (first | apply Kd.R_alloc | apply Kd.R_drewN | apply Kd.R_drew)); exact HO611.out) (Kd.R_base ho0) hb); replace HB := hbs_ hb; (try clear hb); (try clear hb2); (try clear hk); (try clear hi); (try clear ho0)) | ((with_reducible refine gate_callee (f := 17) rfl ?_); refine goesC_ (some 20) Try.func17 #[.slice A0 l0.length c0, .int .i64 a1] ?_; (with_reducible refine (spec_StillAt.calls k _ _ l0 a1 t616 _ ?side1 ?side2 A6.out).mono ?_); (case side1 => repeat (first | exact (Kd.C_below HR0.out HB.out) | (with_reducible refine Kd.C_alloc ?_ _) | (with_reducible refine Kd.C_drewN ?_ _) | (with_reducible refine Kd.C_drew ?_))); (case side2 => exact HC0.out); rintro e w10 ⟨v617, rfl, ho0, hb⟩; refine ⟨_, rfl, ?_⟩; have HO618 := Aside0.mk (Kd.R_lower (Kd.R_new' (Kd.R_new' ho0 (Kd.R_lt (by (with_reducible repeat (first | apply Kd.R_alloc | apply Kd.R_drewN | apply Kd.R_drew)); exact HO611.out))) (Kd.R_lt (by (with_reducible repeat (first | apply Kd.R_alloc | apply Kd.R_drewN | apply Kd.R_drew)); exact HO615.out))) bls_); replace HO611 := Aside0.mk (Kd.R_elder' (by (with_reducible repeat (first | apply Kd.R_alloc | apply Kd.R_drewN | apply Kd.R_drew)); exact HO611.out) (Kd.R_base ho0) hb); replace HO615 := Aside0.mk (Kd.R_elder' (by (with_reducible repeat (first | apply Kd.R_alloc | apply Kd.R_drewN | apply Kd.R_drew)); exact HO615.out) (Kd.R_base ho0) hb); replace HB := hbs_ hb; (try clear hb); (try clear hb2); (try clear hk); (try clear hi); (try clear ho0)))
  go_loopg [5, 8] k (fun kq v5 v8 w' => ∃ (x5_1 : List (S54)) (x8_1 : Int), v8 = .int .i64 x8_1 ∧ Aside0 (spec_LostAt.l0 kq x5_1 t613 t616 x8_1 = some r) ∧ Aside0 (kq ≤ k) ∧ Aside0 (Kd.R k54 54 w' w.heap.size (fun k_ => some k_ ≠ (v614 : Value).ownBlock ∧ some k_ ≠ (v617 : Value).ownBlock) v5 x5_1) ∧ Aside0 (Kd.R k54 54 w' w.heap.size (fun k_ => some k_ ≠ (v5 : Value).ownBlock ∧ some k_ ≠ (v617 : Value).ownBlock) v614 t613) ∧ Aside0 (Kd.R k54 54 w' w.heap.size (fun k_ => some k_ ≠ (v5 : Value).ownBlock ∧ some k_ ≠ (v614 : Value).ownBlock) v617 t616) ∧ Aside0 (Below w.heap.size w w'))
  case atStart => exact ⟨(y609), (0), rf_, H', ⟨Nat.le_refl _⟩, ⟨by (with_reducible repeat (first | apply Kd.R_alloc | apply Kd.R_drewN | apply Kd.R_drew)); exact Kd.R_mono HO611.out (fun _ hk => ⟨hk.1.2, hk.2⟩)⟩, ⟨by (with_reducible repeat (first | apply Kd.R_alloc | apply Kd.R_drewN | apply Kd.R_drew)); exact Kd.R_mono HO615.out (fun _ hk => ⟨hk.1.2, hk.2⟩)⟩, ⟨by (with_reducible repeat (first | apply Kd.R_alloc | apply Kd.R_drewN | apply Kd.R_drew)); exact Kd.R_mono HO618.out (fun _ hk => ⟨hk.1.2, hk.2⟩)⟩, ⟨bl_⟩⟩
  case round =>
   clear H'
   try clear c1
   try clear p2
   try clear c4
   try clear p6
   obtain ⟨x5_1, x8_1, rfl, HA, HK1, HO_5, HO_6, HO_7, HB⟩ := hrel
   cases gk with
   | zero => exact absurd HA.out (by simp [spec_LostAt.l0])
   | succ k1 =>
    have H := HA.out
    clear HA
    simp only [spec_LostAt.l0] at H
    by_cases c11 : x8_1 < (t613.length : Int)
    ·rw [if_pos c11] at H
     have c11b0 : decide (x8_1 < (t613.length : Int)) = true := decide_eq_true c11
     clear c11
     obtain ⟨c12b0, H⟩ := ifd_ H
     obtain ⟨t620, A13, H⟩ := bindE_ H
     by_cases c14 : t620 = true
     ·subst c14
      replace H := ite_t_ H
      have H' := Aside0.mk H
      clear H
      obtain ⟨Ao15, co15, eo15⟩ := Kd.R_slice HO_6.out
      subst eo15
      have p619 : 0 ≤ (x8_1 : Int) := od_
      have q619 : x8_1 < (t613.length : Int) := od_
      obtain ⟨ad619, e619, hx619_0, hx619_1, hx619_2⟩ := at_T54 (Kd.R_reads' HO_6.out).2.2 x8_1 p619 q619
      cases e619
      replace p619 := eq_true p619
      replace q619 := eq_true q619
      obtain ⟨Ao16, co16, eo16⟩ := Kd.R_slice HO_7.out
      subst eo16
      go_wp2_with (first | ((with_reducible refine gate_callee (f := 41) rfl ?_); refine goesC_ (some 32) Try.func41 #[.slice Ao16 t616.length co16, .agg #[.int .i64 ((rd_T54 t613 x8_1).f0.f0), .int .i64 ((rd_T54 t613 x8_1).f0.f1), .int .i64 ((rd_T54 t613 x8_1).f1)]] ?_; (with_reducible refine (spec_l06Has.calls k1 _ _ t616 ((rd_T54 t613 x8_1).f0.f0) ((rd_T54 t613 x8_1).f0.f1) ((rd_T54 t613 x8_1).f1) true _ ?side1 ?side2 A13.out).mono ?_); (case side1 => repeat (first | exact (Kd.R_reads' HO_7.out).2.2 | (with_reducible refine Kd.C_alloc ?_ _) | (with_reducible refine Kd.C_drewN ?_ _) | (with_reducible refine Kd.C_drew ?_))); (case side2 => exact (Kd.R_reads' HO_7.out).2.1); rintro e w17 ⟨rfl, hb⟩; refine ⟨_, rfl, ?_⟩; replace HO_5 := hob_ HO_5 hb; replace HO_6 := hob_ HO_6 hb; replace HO_7 := hob_ HO_7 hb; replace HB := hbs_ hb; clear hb))
      go_roundg k1
      case measure => have := HK1.out; omega
      case rel => exact ⟨(x5_1), (wrap64 (x8_1 + 1)), rf_, H', ⟨by have := HK1.out; omega⟩, ⟨by (with_reducible repeat (first | apply Kd.R_alloc | apply Kd.R_drewN | apply Kd.R_drew)); exact HO_5.out⟩, ⟨by (with_reducible repeat (first | apply Kd.R_alloc | apply Kd.R_drewN | apply Kd.R_drew)); exact HO_6.out⟩, ⟨by (with_reducible repeat (first | apply Kd.R_alloc | apply Kd.R_drewN | apply Kd.R_drew)); exact HO_7.out⟩, ⟨bl_⟩⟩
     ·replace c14 := Bool.eq_false_iff.mpr c14
      subst c14
      replace H := ite_f_ H
      obtain ⟨c18, H⟩ := ifn_ H
      have LMc18 := Aside0.mk c18
      clear c18
      obtain ⟨y622, hy622⟩ : ∃ y_ : List (S54), y_ = (x5_1 ++ [(⟨(⟨(rd_T54 t613 x8_1).f0.f0, (rd_T54 t613 x8_1).f0.f1⟩ : S26), (rd_T54 t613 x8_1).f1⟩ : S54)]) := ⟨_, rfl⟩
      replace H : (spec_LostAt.l0 k1 y622 t613 t616 (wrap64 (x8_1 + 1))) = some r := by first | (rw [hy622]; with_reducible exact H) | (have H2_ := (Option.bind_some _ _).symm.trans H; rw [hy622]; with_reducible exact H2_) | (have H2_ := (Option.bind_some _ _).symm.trans H; with_reducible exact H2_) | with_reducible exact H | (rw [hy622]; exact H) | exact H
      have Ny622 := Aside0.mk hy622
      clear hy622
      have H' := Aside0.mk H
      clear H
      obtain ⟨Ao19, co19, eo19⟩ := Kd.R_slice HO_6.out
      subst eo19
      have p619 : 0 ≤ (x8_1 : Int) := od_
      have q619 : x8_1 < (t613.length : Int) := od_
      obtain ⟨ad619, e619, hx619_0, hx619_1, hx619_2⟩ := at_T54 (Kd.R_reads' HO_6.out).2.2 x8_1 p619 q619
      cases e619
      replace p619 := eq_true p619
      replace q619 := eq_true q619
      obtain ⟨Ao20, co20, eo20⟩ := Kd.R_slice HO_7.out
      subst eo20
      go_wp2_with (first | ((with_reducible refine gate_callee (f := 41) rfl ?_); refine goesC_ (some 32) Try.func41 #[.slice Ao20 t616.length co20, .agg #[.int .i64 ((rd_T54 t613 x8_1).f0.f0), .int .i64 ((rd_T54 t613 x8_1).f0.f1), .int .i64 ((rd_T54 t613 x8_1).f1)]] ?_; (with_reducible refine (spec_l06Has.calls k1 _ _ t616 ((rd_T54 t613 x8_1).f0.f0) ((rd_T54 t613 x8_1).f0.f1) ((rd_T54 t613 x8_1).f1) false _ ?side1 ?side2 A13.out).mono ?_); (case side1 => repeat (first | exact (Kd.R_reads' HO_7.out).2.2 | (with_reducible refine Kd.C_alloc ?_ _) | (with_reducible refine Kd.C_drewN ?_ _) | (with_reducible refine Kd.C_drew ?_))); (case side2 => exact (Kd.R_reads' HO_7.out).2.1); rintro e w21 ⟨rfl, hb⟩; refine ⟨_, rfl, ?_⟩; replace HO_5 := hob_ HO_5 hb; replace HO_6 := hob_ HO_6 hb; replace HO_7 := hob_ HO_7 hb; replace HB := hbs_ hb; clear hb; have p621 : 0 ≤ (x8_1 : Int) := od_; have q621 : x8_1 < (t613.length : Int) := od_; obtain ⟨ad621, e621, hx621_0, hx621_1, hx621_2⟩ := at_T54 (Kd.R_reads' HO_6.out).2.2 x8_1 p621 q621; obtain rfl : ad619 = ad621 := (by injection e621); replace p621 := eq_true p621; replace q621 := eq_true q621) | ((with_reducible refine gate_builtin (b := .append) (xs := #[.tmp 34, .tmp 39]) rfl ?_); at_builtin; refine Kd.R_append k54 (w0 := w) w.heap.size rfl (.tmp 34) (.tmp 39) 38 54 (.agg #[(.int .i64 0), (.int .i64 0), (.int .i64 0)]) 24 rfl Try.underlying38 info54 rfl (by decide) (by omega) u5 x5_1 (⟨(⟨(rd_T54 t613 x8_1).f0.f0, (rd_T54 t613 x8_1).f0.f1⟩ : S26), (rd_T54 t613 x8_1).f1⟩ : S54) [.int .i64 ((rd_T54 t613 x8_1).f0.f0), .int .i64 ((rd_T54 t613 x8_1).f0.f1), .int .i64 ((rd_T54 t613 x8_1).f1)] (fun k_ => some k_ ≠ (.slice (some ad619) t613.length co19 : Value).ownBlock ∧ some k_ ≠ (.slice Ao20 t616.length co20 : Value).ownBlock) (fun _ => False) rfl rfl ?aP (fun _ hk => hk.elim) ?aF ?aO ?aB ?aS ?aL ?_; (case aP => exact k54_mkM _ _ _ (⟨(⟨(rd_T54 t613 x8_1).f0.f0, (rd_T54 t613 x8_1).f0.f1⟩ : S26), (rd_T54 t613 x8_1).f1⟩ : S54)); (case aB => exact bl_); (case aF => exact (fun k_ hk => ⟨Kd.fresh' (Kd.R_lt (by (with_reducible repeat (first | apply Kd.R_alloc | apply Kd.R_drewN | apply Kd.R_drew)); exact HO_6.out)) k_ hk, Kd.fresh' (Kd.R_lt (by (with_reducible repeat (first | apply Kd.R_alloc | apply Kd.R_drewN | apply Kd.R_drew)); exact HO_7.out)) k_ hk⟩)); (case aO => exact (by (with_reducible repeat (first | apply Kd.R_alloc | apply Kd.R_drewN | apply Kd.R_drew)); exact HO_5.out)); (case aS => exact bls_); (case aL => have := LMc18.out; omega); intro v623 w22 ho hb hg hat; rw [← Ny622.out] at ho; replace HO_6 := Aside0.mk (Kd.R_after (ok := (fun k_ => some k_ ≠ (.slice Ao20 t616.length co20 : Value).ownBlock)) (by (with_reducible repeat (first | apply Kd.R_alloc | apply Kd.R_drewN | apply Kd.R_drew)); exact Kd.R_mono HO_6.out (fun _ hk => ⟨hk.2, hk.1⟩)) hg hat); replace HO_7 := Aside0.mk (Kd.R_after (ok := (fun k_ => some k_ ≠ (.slice (some ad619) t613.length co19 : Value).ownBlock)) (by (with_reducible repeat (first | apply Kd.R_alloc | apply Kd.R_drewN | apply Kd.R_drew)); exact Kd.R_mono HO_7.out (fun _ hk => ⟨hk.2, hk.1⟩)) hg hat); replace HB := Aside0.mk (hb); have HO624 := Aside0.mk (ho); clear HO_5; clear ho hb hg hat))
      go_roundg k1
      case measure => have := HK1.out; omega
      case rel => exact ⟨(y622), (wrap64 (x8_1 + 1)), rf_, H', ⟨by have := HK1.out; omega⟩, ⟨by (with_reducible repeat (first | apply Kd.R_alloc | apply Kd.R_drewN | apply Kd.R_drew)); exact HO624.out⟩, ⟨by (with_reducible repeat (first | apply Kd.R_alloc | apply Kd.R_drewN | apply Kd.R_drew)); exact Kd.R_mono HO_6.out (fun _ hk => ⟨hk.2, hk.1⟩)⟩, ⟨by (with_reducible repeat (first | apply Kd.R_alloc | apply Kd.R_drewN | apply Kd.R_drew)); exact Kd.R_mono HO_7.out (fun _ hk => ⟨hk.2, hk.1⟩)⟩, ⟨bl_⟩⟩
    ·rw [if_neg c11] at H
     have c11b0 : decide (x8_1 < (t613.length : Int)) = false := decide_eq_false c11
     clear c11
     obtain rfl := Option.some.inj H
     obtain ⟨Ao23, co23, eo23⟩ := Kd.R_slice HO_6.out
     subst eo23
     go_wp2
     go_ret
     exact ⟨_, eq_, by (with_reducible repeat (first | apply Kd.R_alloc | apply Kd.R_drewN | apply Kd.R_drew)); exact Kd.R_mono HO_5.out (fun _ hk => trivial), bl_⟩
 ·replace c4 := Bool.eq_false_iff.mpr c4
  subst c4
  replace H := ite_f_ H
  obtain rfl := Option.some.inj H
  go_enter Try.func19, Try.ntmps19
  go_wp2_with (first | ((with_reducible refine gate_dst (N := 9) rfl ?_); refine Kd.R_lit k54 _ 54 ?hg (N := 9) ?hd (xs := ([] : List (S54))) (inner := []) (ok := fun _ => True) (okp := fun _ => True) ?hr ?hp (fun _ hk => hk) trivial (Below.refl _ _) (Nat.le_refl _) (by simp) ?_; (case hd => rfl); (case hg => rfl); (case hr => first | (go_simp; done) | (go_simp; rfl)); (case hp => exact (Reps.none _ _)); intro v610 w24 ho25 hb hg_ hnew_; clear hg_ hnew_; (first | rw [← Ny609.out] at ho25 | (simp only [Int.reduceToNat] at ho25; rw [← Ny609.out] at ho25)); have HO611 := Aside0.mk (Kd.R_lower ho25 bls_); replace HB := hbs_ hb; clear hb ho25) | ((with_reducible refine gate_callee (f := 40) rfl ?_); refine goesC_ (some 11) Try.func40 #[.int .i64 a1, .int .i64 (-1000000), .int .i64 1000000] ?_; (with_reducible refine (spec_l01In.calls a1 (-1000000) 1000000 false _ A3.out).mono ?_); rintro e w' ⟨rfl, ⟨nd, rfl⟩⟩; refine ⟨_, rfl, ?_⟩))
  go_ret
  exact ⟨_, eq_, by (with_reducible repeat (first | apply Kd.R_alloc | apply Kd.R_drewN | apply Kd.R_drew)); exact HO611.out, bl_⟩
end Go.Proofs.Yteehgihclnlaoaa.PA
