import Derived.Test.YtcbhmcpdnokbiaaKLPAx11
-- printed by wip/tools
namespace Go.Proofs.Ytcbhmcpdnokbiaa.PA
open Go.RowKit Go.Proofs.YtcbhmcpdnokbiaaW.PrintWords Go.Proofs.YtcbhmcpdnokbiaaW.PrintLast Go.Proofs.YtcbhmcpdnokbiaaW.PrintMore
attribute [local go_sem] max2_int min2_int max_two min_two max_three min_three max_four min_four
set_option linter.unusedVariables false
set_option linter.unusedSimpArgs false
attribute [local go_sem high] eqA29
def impl_Cred_31.f (l0 : List (S46)) : Option (List (S46)) := if l0.length < 1759218604441 then some l0 else none
set_option maxHeartbeats 8000000 in
set_option maxRecDepth 100000 in
theorem impl_Cred_31.calls (A0 : Option Addr) (c0 : Nat) (l0 : List (S46)) (r : List (S46)) (w : World) (hr0 : Kd.C k46 w A0 l0.length l0) (hc0 : l0.length ≤ c0) (h : impl_Cred_31.f l0 = some r) :
  Calls Try.prog 31 #[.slice A0 l0.length c0] w fun e w' => ∃ v0_ : Value, e = .returned (v0_) ∧ Kd.R k46 46 w' w.heap.size (fun _ => True) v0_ r ∧ Below w.heap.size w w' := by
 have HR0 := aa_ hr0
 have HC0 := aa_ hc0
 clear hr0 hc0
 have hq : ∀ (w : World) (a : Option Addr) (n c n' c' : Nat), (binOp .eql 24 (.slice a n c) (.slice none n' c')).run Try.prog w = .ok (.bool a.isNone) w := fun w a n c n' c' => Lib.run_eql_slice_nil w _ _ a n c n' c' Try.underlying24
 have HB := aa_ (Below.refl w.heap.size w)
 unfold impl_Cred_31.f at h
 by_cases hl : l0.length < 1759218604441
 ·rw [if_pos hl] at h
  have LM := aa_ hl
  clear hl
  obtain rfl := Option.some.inj h
  clear h
  cases A0 with
  | none =>
   have e0 : l0 = [] := by
    rcases l0 with _ | ⟨x, xs⟩
    ·rfl
    ·obtain ⟨ad, c, e, _⟩ := Kd.C_get HR0.out x 0 (by omega) (by rw [List.length_cons]; omega)
     cases e
   subst e0
   clear HR0 HC0 LM
   go_enter Try.func31, Try.ntmps31
   go_wp2
   go_ret
   exact ⟨_, eq_, Kd.R_nil _ _ _ _ _, bl_⟩
  | some ad =>
   obtain ⟨y1, hy1⟩ : ∃ y_ : List (S46), y_ = (([] : List (S46))) := ⟨_, rfl⟩
   have Ny1 := aa_ hy1
   clear hy1
   go_enter Try.func31, Try.ntmps31
   go_wp2_with (first | ((with_reducible refine gD_ 5 rfl ?_); refine Kd.R_lit k46 _ 46 ?hg (N := 5) ?hd (xs := ([] : List (S46))) (inner := []) (ok := fun _ => True) (okp := fun _ => True) ?hr ?hp (fun _ hk => hk) trivial (Below.refl _ _) (Nat.le_refl _) (by simp) ?_; (case hd => rfl); (case hg => rfl); (case hr => first | (go_simp; done) | (go_simp; rfl)); (case hp => exact (Reps.none _ _)); intro v161 w9 ho10 hb hg_ hnew_; clear hg_ hnew_; (first | rw [← Ny1.out] at ho10 | (simp only [Int.reduceToNat] at ho10; rw [← Ny1.out] at ho10)); have HO162 := aa_ (Kd.R_lower ho10 bls_); replace HB := hbs_ hb; clear hb ho10) | ((with_reducible refine gate_builtin (b := .append) (xs := #[.tmp 5, .tmp 6]) rfl ?_); at_builtin; refine Kd.R_append_rows k46 (w0 := w) w.heap.size rfl (.tmp 5) (.tmp 6) 24 46 (.agg #[(.int .i64 0), (.int .i64 0), (.int .i64 0), (.int .i64 0), (.int .i64 0), (.int .i64 0), (.int .i64 0), (.int .i64 0), (.int .i64 0), (.int .i64 0)]) 80 rfl Try.underlying24 info46 rfl (by decide) (by omega) v161 y1 l0 _ _ _ (fun _ => True) (fun _ => False) rfl rfl ?aO ?aR (fun _ _ h => h) (fun _ h => h.elim) ?aF ?aB ?aS ?aL ?_; (case aR => repeat (first | exact (Kd.C_below HR0.out HB.out) | (with_reducible refine Kd.C_alloc ?_ _) | (with_reducible refine Kd.C_drewN ?_ _) | (with_reducible refine Kd.C_drew ?_))); (case aB => exact bl_); (case aF => exact (fun _ _ => trivial)); (case aO => exact (rr_ HO162)); (case aS => exact bls_); (case aL => have := LM.out; rw [Ny1.out]; simp only [List.length_nil]; omega); intro v164 w11 ho hb hg hat; rw [Ny1.out, List.nil_append] at ho; replace HB := aa_ (hb); have HO165 := aa_ (ho); clear HO162; clear ho hb hg hat))
   go_ret
   exact ⟨_, eq_, by (with_reducible repeat (first | apply Kd.R_alloc | apply Kd.R_drewN | apply Kd.R_drew)); exact HO165.out, bl_⟩
 ·rw [if_neg hl] at h
  exact absurd h (by simp)
-- NOT PRINTED: function 33 (impl_Cred_33)
def impl_Without.f (l0 : List (S46)) (a1 : Int) : Option (List (S46)) := if l0.length < 1759218604441 then some (if 0 ≤ a1 ∧ a1 < (l0.length : Int) then l0.eraseIdx a1.toNat else l0) else none
theorem impl_Without.clear_any {P : Program} (w : World) (t e ty : TypeId) (z : Value) (ht : P.underlying t = some (.slice e)) (hv : ∀ w, (zeroValue e).run P w = .ok z w) (b o n c : Nat) (hn : 0 < n) (L : List Value) (hL : (Builtin.zeroCells z.cells n).toList = L) (h1 : ∀ u ∈ L, u.oneCell' = true)
  (hc : ∀ j, j < L.length → (w.cell? ⟨b, o + j, none⟩).isSome = true) (hf : ∀ j, j < L.length → w.frozen? ⟨b, o + j, none⟩ = false) :
  (Builtin.clear_ #[t] ty #[.slice (some ⟨b, o, none⟩) n c]).run P w = .ok (.tuple #[]) (w.setCells b o L) := by
 have hst := run_storeCells_cells (P := P) b o L 0 w (by simpa using hc) (by simpa using hf) h1
 simp only [Nat.add_zero] at hst
 obtain ⟨m, rfl⟩ : ∃ m, n = m + 1 := ⟨n - 1, by omega⟩
 simp [Builtin.clear_, run_underlying ht, hv, hL, hst]
theorem impl_Without.spare {α : Type} {d : Kd α} {e : Nat} {w : World} {base : Nat} {ok : Nat → Prop} {g n c : Nat} {xs : List α} (h : d.R e w base ok (.slice (some ⟨g, 0, none⟩) n c) xs) (o : Nat) (L : List Value) (ho : n * d.sz ≤ o) (hfit : o + L.length ≤ c * d.sz) :
  d.R e (w.setCells g o L) base ok (.slice (some ⟨g, 0, none⟩) n c) xs ∧ w.grownBy (w.setCells g o L) (some g) ∧ (∀ j, j < L.length → (w.cell? ⟨g, o + j, none⟩).isSome = true ∧ w.frozen? ⟨g, o + j, none⟩ = false) := by
 obtain ⟨hn, hnc, _⟩ := Kd.R_reads' h
 obtain ⟨hok, inner, hown, hr⟩ := h
 rcases hown.2 with ⟨hv, _⟩ | ⟨g', cap', cur, hv, hb, hh, h3, hcm, hcs, htake⟩
 ·cases hv
 injection hv with ha _ hc
 injection ha with ha
 injection ha with hg
 subst hg; subst hc
 rw [← hn] at htake
 have hf : o + L.length ≤ cur.size := by omega
 obtain ⟨cur', q1, q2, q3⟩ := setCells_row L o w cur hh hf
 obtain ⟨s1, s2, s3, s4⟩ := setCells_same g L o w
 have hfar : ∀ k', k' ≠ g → (w.setCells g o L).heap[k']? = w.heap[k']? := fun k' hk' => setCells_far L _ k' hk'
 refine ⟨⟨hok, inner, ⟨hown.1, .inr ⟨g, c, cur', by rw [← hn], hb, q1, by rw [← hn]; exact hnc, hcm, by rw [q2, hcs], ?_⟩⟩, ?_⟩, ⟨s1, s2, s3, by rw [s4]; exact Nat.le_refl _, fun k' _ hk' => hfar k' (fun he => hk' (by rw [he]))⟩, ?_⟩
 ·rw [q3, ← hn, List.append_assoc, List.take_append_of_le_length (by rw [List.length_take, Array.length_toList]; omega), List.take_take, Nat.min_eq_left ho, htake]
 ·exact hr.imp_ (fun p q hp => d.M_move (fun k' hk' => hfar k' (fun he => hk'.2 (by simp [Value.ownBlock, he]))) hp)
 ·intro j hj
  rw [cell_of_row w g _ cur e (0, 0) hh]
  exact ⟨by simp; omega, blk_frozen hh _⟩
theorem impl_Without.zcells : (Builtin.zeroCells (Value.agg #[(.int .i64 0), (.int .i64 0), (.int .i64 0), (.int .i64 0), (.int .i64 0), (.int .i64 0), (.int .i64 0), (.int .i64 0), (.int .i64 0), (.int .i64 0)]).cells 1).toList = List.replicate 10 (.int .i64 0) := by kernel_rfl
theorem impl_Without.zval (w : World) : (zeroValue 46).run Try.prog w = .ok (Value.agg #[(.int .i64 0), (.int .i64 0), (.int .i64 0), (.int .i64 0), (.int .i64 0), (.int .i64 0), (.int .i64 0), (.int .i64 0), (.int .i64 0), (.int .i64 0)]) w := by kernel_rfl
set_option maxHeartbeats 4000000 in
set_option maxRecDepth 100000 in
theorem impl_Without.del {w0 w : World} {base : Nat} {ok : Nat → Prop} (g c m : Nat) (xs : List S46) (i : Nat) (HO : Kd.R k46 46 w base ok (.slice (some ⟨g, 0, none⟩) (m + 1) c) xs) (hi : i ≤ m) (hB : Below base w0 w) (hbase : base ≤ w.heap.size) :
  Calls Try.prog 33 #[.slice (some ⟨g, 0, none⟩) (m + 1) c, .int .i64 (i : Int), .int .i64 ((i : Int) + 1)] w fun e w' => e = .returned (.slice (some ⟨g, 0, none⟩) m c) ∧ Kd.R k46 46 w' base ok (.slice (some ⟨g, 0, none⟩) m c) (xs.eraseIdx i) ∧ Below base w0 w' := by
 have hcm : c ≤ 9223372036854775807 := by
  obtain ⟨_, inner, hown, _⟩ := HO
  rcases hown.2 with ⟨hv, _⟩ | ⟨g', cap', cur, hv, _, _, _, h, _⟩
  ·cases hv
  ·injection hv with _ _ hc
   subst hc
   simpa [maxLen] using h
 have hnc : m + 1 ≤ c := (Kd.R_reads' HO).2.1
 have hic : i ≤ c := by omega
 have hi1 : i + 1 ≤ c := by omega
 have hin : i + 1 ≤ m + 1 := by omega
 have h0 : (0 : Int) ≤ (i : Int) := by omega
 have hI1 : (0 : Int) ≤ (i : Int) + 1 := by omega
 have hI2 : (i : Int) + 1 ≤ (m : Int) + 1 := by omega
 have hI3 : (0 : Int) ≤ (m : Int) := by omega
 have hmc : m ≤ c := by omega
 have hne : ¬ c = m := by omega
 have HOa := aa_ HO
 have HBa := aa_ hB
 have HSa := aa_ hbase
 clear HO hB hbase
 have hu46 := Try.underlying46
 obtain ⟨L, hL⟩ : ∃ L : List Value, L = List.replicate 10 (.int .i64 0) := ⟨_, rfl⟩
 have HLl := aa_ (show L.length = 10 by rw [hL]; rfl)
 have HL1 := aa_ (show ∀ u ∈ L, u.oneCell' = true by rw [hL]; intro u hu; rw [List.eq_of_mem_replicate hu]; rfl)
 have HL := aa_ (impl_Without.zcells.trans hL.symm)
 clear hL
 go_enter Try.func33, Try.ntmps33
 go_wp2_with fail
 go_region_law (refine Kd.R_delete_step k46 (w0 := w0) base rfl (.tmp 22) (.tmp 25) 24 46 rfl Try.underlying24 (by rw [Option.map_eq_some_iff]; obtain ⟨i0, e0, h0_⟩ := Option.map_eq_some_iff.1 info46; exact ⟨i0, e0, by injection h0_ with _ h1_; injection h1_⟩) (g := g) (n := m + 1) (c := c) (k := i) (m := m - i) (c2 := c - (i + 1)) (xs := xs) (ok := ok) rfl rfl (by simp only [Option.map_some, add_plain]; rfl) (by omega) (Kd.R_drew HOa.out) (by omega) (below_drew HBa.out) (by simpa using HSa.out) ?_; intro w1 hR1 hB1 hg1; have HR1 := aa_ (show Kd.R k46 46 w1 base ok (.slice (some ⟨g, 0, none⟩) m c) (xs.eraseIdx i) from hR1); have HB1 := aa_ hB1; have HW1 := aa_ (show base ≤ w1.heap.size from Nat.le_trans HSa.out (by have := hg1.size; simpa using this)); clear hR1 hB1 hg1)
 all_goals
  obtain ⟨hS1, hS2, hS3⟩ := impl_Without.spare HR1.out (m * 10) L (Nat.le_refl _) (by have := HLl.out; show m * 10 + L.length ≤ c * 10; omega)
  have hcl : ∀ ty, (Builtin.clear_ #[24] ty #[.slice (some ⟨g, m * 10, none⟩) 1 (c - m)]).run Try.prog w1 = .ok (.tuple #[]) (w1.setCells g (m * 10) L) := fun ty => impl_Without.clear_any w1 24 46 ty _ Try.underlying24 impl_Without.zval g (m * 10) 1 (c - m) (by omega) L HL.out HL1.out (fun j hj => (hS3 j hj).1) (fun j hj => (hS3 j hj).2)
  have HS1 := aa_ hS1
  have HS2 := aa_ hS2
  clear hS1 hS2 hS3
  go_wp2
  all_goals
   go_ret
   refine ⟨rfl, by first | exact HS1.out | (have h_ : c = i + 1 := (by assumption); rw [← h_]; exact HS1.out), HB1.out.grown HS2.out HW1.out (fun k hk => ?_)⟩
   injection hk with hk
   subst hk
   exact Kd.R_base HR1.out _ (by simp [Value.ownBlock])
set_option maxHeartbeats 4000000 in
set_option maxRecDepth 100000 in
theorem impl_Without.calls (A0 : Option Addr) (c0 : Nat) (l0 : List (S46)) (a1 : Int) (r : List (S46)) (w : World) (hr0 : Kd.C k46 w A0 l0.length l0) (hc0 : l0.length ≤ c0) (h : impl_Without.f l0 a1 = some r) :
  Calls Try.prog 18 #[.slice A0 l0.length c0, .int .i64 a1] w fun e w' => ∃ v0_ : Value, e = .returned (v0_) ∧ Kd.R k46 46 w' w.heap.size (fun _ => True) v0_ r ∧ Below w.heap.size w w' := by
 have HR0 := aa_ hr0
 have HC0 := aa_ hc0
 clear hr0 hc0
 unfold impl_Without.f at h
 by_cases hl : l0.length < 1759218604441
 ·rw [if_pos hl] at h
  have H := aa_ (Option.some.inj h)
  clear h
  have HCl := aa_ (show impl_Cred_31.f l0 = some l0 by unfold impl_Cred_31.f; rw [if_pos hl])
  by_cases hin : 0 ≤ a1 ∧ a1 < (l0.length : Int)
  ·have HI := aa_ (show impl_in.f a1 0 ((l0.length : Int) - 1) = some true by unfold impl_in.f; rw [if_pos (by omega)]; simp; omega)
   obtain ⟨h1, h2⟩ := hin
   obtain ⟨i, rfl⟩ := Int.eq_ofNat_of_zero_le h1
   have hi : i < l0.length := by omega
   obtain ⟨m, hm⟩ : ∃ m, l0.length = m + 1 := ⟨l0.length - 1, by omega⟩
   have e2 : (0 : Int) ≤ (l0.length : Int) - 1 := by omega
   have e3 : (l0.length : Int) ≤ 1759218604441 := by omega
   have e4 : (i : Int) ≤ 1759218604441 := by omega
   have HM := aa_ hm
   clear hm
   go_enter Try.func18, Try.ntmps18
   go_wp2_with (first | ((with_reducible refine gC_ 31 rfl ?_); refine goesC_ (some 7) Try.func31 #[.slice A0 l0.length c0] ?_; (with_reducible refine (impl_Cred_31.calls _ _ l0 l0 _ ?side1 ?side2 HCl.out).mono ?_); (case side1 => exact HR0.out); (case side2 => exact HC0.out); rintro e w1 ⟨v1, rfl, ho, hb⟩; refine ⟨_, rfl, ?_⟩; have HO := aa_ ho; have HB := aa_ hb; clear ho hb) | ((with_reducible refine gC_ 32 rfl ?_); refine goesC_ (some 12) Try.func32 #[.int .i64 (i : Int), .int .i64 0, .int .i64 ((l0.length : Int) - 1)] ?_; (with_reducible refine (impl_in.calls (i : Int) 0 ((l0.length : Int) - 1) true _ HI.out).mono ?_); rintro e w' ⟨rfl, ⟨nd, rfl⟩⟩; refine ⟨_, rfl, ?_⟩))
   obtain ⟨g, cap, ev, _⟩ := Kd.R_form HO.out (by omega)
   subst ev
   have HO2 := aa_ (show Kd.R k46 46 (w1.drewN nd) w.heap.size (fun _ => True) (.slice (some ⟨g, 0, none⟩) (m + 1) cap) l0 from by rw [← HM.out]; exact Kd.R_drewN HO.out nd)
   rw [show (Value.slice (some ⟨g, 0, none⟩) l0.length cap) = Value.slice (some ⟨g, 0, none⟩) (m + 1) cap from by rw [HM.out]]
   refine (impl_Without.del (w0 := w) (base := w.heap.size) g cap m l0 i HO2.out (by have := HM.out; omega) (pw_below_drewN HB.out nd) (by have := HB.out.size; simpa using this)).mono ?_
   rintro e w2 ⟨rfl, hR, hb⟩
   have HR := aa_ hR
   have HB2 := aa_ hb
   clear hR hb
   go_wp2
   go_ret
   refine ⟨_, rfl, ?_, HB2.out⟩
   have e := H.out
   rw [if_pos ⟨by omega, by omega⟩] at e
   rw [← e, show ((i : Int)).toNat = i from rfl]
   have HR' := HR.out
   have el : (l0.eraseIdx i).length = m := by rw [List.length_eraseIdx_of_lt hi]; have := HM.out; omega
   exact HR'
  ·have HI := aa_ (show impl_in.f a1 0 ((l0.length : Int) - 1) = some false by
    unfold impl_in.f
    by_cases h0 : a1 ≥ 0
    ·rw [if_pos h0]; simp; omega
    ·rw [if_neg h0])
   have HN := aa_ hin
   have e3 : (l0.length : Int) ≤ 1759218604441 := by omega
   clear hin
   go_enter Try.func18, Try.ntmps18
   go_wp2_with (first | ((with_reducible refine gC_ 31 rfl ?_); refine goesC_ (some 7) Try.func31 #[.slice A0 l0.length c0] ?_; (with_reducible refine (impl_Cred_31.calls _ _ l0 l0 _ ?side1 ?side2 HCl.out).mono ?_); (case side1 => exact HR0.out); (case side2 => exact HC0.out); rintro e w1 ⟨v1, rfl, ho, hb⟩; refine ⟨_, rfl, ?_⟩; have HO := aa_ ho; have HB := aa_ hb; clear ho hb) | ((with_reducible refine gC_ 32 rfl ?_); refine goesC_ (some 12) Try.func32 #[.int .i64 a1, .int .i64 0, .int .i64 ((l0.length : Int) - 1)] ?_; (with_reducible refine (impl_in.calls a1 0 ((l0.length : Int) - 1) false _ HI.out).mono ?_); rintro e w' ⟨rfl, ⟨nd, rfl⟩⟩; refine ⟨_, rfl, ?_⟩))
   go_ret
   have e := H.out
   rw [if_neg HN.out] at e
   subst e
   exact ⟨_, rfl, Kd.R_drewN HO.out nd, pw_below_drewN HB.out nd⟩
 ·rw [if_neg hl] at h
  exact absurd h (by simp)
def impl_IsMember.f (k : Nat) (l0 : List (S46)) (a1_0 : Int) (a1_1 : Int) (a2 : Int) : Option (Bool) := (impl_FactsOf.f k l0).bind fun t511 => ((impl_Fact_40.f k t511 a1_0 a1_1 a2).bind fun t514 => (some t514))
set_option maxHeartbeats 8000000 in
set_option maxRecDepth 100000 in
theorem impl_IsMember.calls (k : Nat) (A0 : Option Addr) (c0 : Nat) (l0 : List (S46)) (a1_0 : Int) (a1_1 : Int) (a2 : Int) (r : Bool) (w : World) (hr0 : Kd.C k46 w A0 l0.length l0) (hc0 : l0.length ≤ c0) (h : impl_IsMember.f k l0 a1_0 a1_1 a2 = some r) :
  Calls Try.prog 28 #[.slice A0 l0.length c0, .agg #[.int .i64 a1_0, .int .i64 a1_1], .int .i64 a2] w fun e w' => e = .returned (.bool r) ∧ Below w.heap.size w w' := by
 have hu27 := Try.underlying27
 have hu29 := Try.underlying29
 have HR0 := aa_ hr0
 have HC0 := aa_ hc0
 clear hr0 hc0
 have HB := aa_ (Below.refl w.heap.size w)
 have H : ((impl_FactsOf.f k l0).bind fun t511 => ((impl_Fact_40.f k t511 a1_0 a1_1 a2).bind fun t514 => (some t514))) = some r := h
 clear h
 obtain ⟨t511, A4, H⟩ := bindE_ H
 obtain ⟨t514, A5, H⟩ := bindE_ H
 obtain rfl := Option.some.inj H
 go_enter Try.func28, Try.ntmps28
 try go_wp2_with (first | ((with_reducible refine gD_ 4 rfl ?_); refine bx_ (N := 4) (cs := #[.int .i64 a1_0, .int .i64 a1_1]) (t := 27) ?_; intro gb510 hg w6 hbox hb; have BK510 := aa_ (hbox); have GW510 := gs_ hg; have GE510 := gs_ hg; replace HB := hbs_ hb; clear hb hbox hg))
 replace BK510 := aa_ (blk_drew BK510.out)
 replace HB := aa_ (below_drew1 HB.out)
 refine start_ (n := 7) (S := fun w' => w'.cell? ⟨gb510, 0, none⟩ = some (.int .i64 a1_0) ∧ w'.cell? ⟨gb510, 1, none⟩ = some (.int .i64 a1_1)) (ds := []) #[false, false, false, false, false, false, false] (by kernel_rfl) rfl rfl ⟨(blk_cell BK510.out 0).trans rfl, (blk_cell BK510.out 1).trans rfl⟩ (fun hHeld => ?_)
 generalize w6.drew = w7 at BK510 HB hHeld ⊢
 refine pure_ (i := 0) (N := some 7) (v := ?_) (a' := ?_) #[true, false, false, false, false, false, false] rfl rfl (by kernel_rfl) (fun _ _ _ h => h) (Or.inl ⟨by rfl, ?_⟩) ?_ ?_
 rotate_left
 ·intro w'
  go_simp
  with_reducible rfl
 rotate_left
 ·simp only [Act.put, List.setIfInBounds_toArray, List.set_cons_zero, List.set_cons_succ, i64_w, i32_w]
  rfl
 refine pure_ (i := 3) (N := some 10) (v := ?_) (a' := ?_) #[true, false, false, true, false, false, false] rfl rfl (by kernel_rfl) (fun _ _ _ h => h) (Or.inl ⟨by rfl, ?_⟩) ?_ ?_
 rotate_left
 ·intro w'
  go_simp
  with_reducible rfl
 rotate_left
 ·simp only [Act.put, List.setIfInBounds_toArray, List.set_cons_zero, List.set_cons_succ, i64_w, i32_w]
  rfl
 refine take_ (i := 2) (N := some 9) (v := ?_) (a' := ?_) #[true, false, true, true, false, false, false] rfl rfl (by kernel_rfl) (fun _ _ _ h => h) (Or.inl ⟨by rfl, ?_⟩) hHeld ?_ ?_
 rotate_left
 ·rintro w' ⟨s0, s1⟩
  go_simp
  with_reducible rfl
 rotate_left
 ·simp only [Act.put, List.setIfInBounds_toArray, List.set_cons_zero, List.set_cons_succ, i64_w, i32_w]
  rfl
 refine pure_ (i := 4) (N := some 11) (v := ?_) (a' := ?_) #[true, false, true, true, true, false, false] rfl rfl (by kernel_rfl) (fun _ _ _ h => h) (Or.inl ⟨by rfl, ?_⟩) ?_ ?_
 rotate_left
 ·intro w'
  go_simp
  with_reducible rfl
 rotate_left
 ·simp only [Act.put, List.setIfInBounds_toArray, List.set_cons_zero, List.set_cons_succ, i64_w, i32_w]
  rfl
 refine one_ (i := 1) (N := some 8) #[true, true, true, true, true, false, false] rfl rfl (by kernel_rfl) (by decide) (fun K hK => ?_)
 refine goes_ Try.func41 (by kernel_rfl) rfl #[.slice A0 l0.length c0] (by rfl) rfl rfl (by (try simp only [List.map_toArray, List.map_cons, List.map_nil]); first | done | rfl | (simp only [List.length_drop, List.length_take]; rfl)) ?_
 with_reducible refine (impl_FactsOf.calls k _ _ l0 t511 _ ?side1 ?side2 A4.out).mono ?_
 (case side1 => repeat (first | exact (Kd.C_below HR0.out HB.out) | (with_reducible refine Kd.C_alloc ?_ _) | (with_reducible refine Kd.C_drewN ?_ _) | (with_reducible refine Kd.C_drew ?_)))
 (case side2 => exact HC0.out)
 rintro e w8 ⟨v512, rfl, ho0, hb⟩
 refine ⟨_, rfl, ?_⟩
 have HO513 := aa_ (Kd.R_lower ho0 bls_)
 replace BK510 := bkb_ BK510 hb
 replace HB := hbs_ hb
 (try clear hb)
 (try clear hb2)
 (try clear hk)
 (try clear hi)
 (try clear ho0)
 obtain ⟨Ao9, co9, eo9⟩ := Kd.R_slice HO513.out
 (first | subst eo9 | (injection eo9 with f1_ f2_ f3_; have f4_ := f1_.symm; have f5_ := f3_.symm; clear f1_ f2_ f3_; subst f4_; subst f5_))
 refine hK.out _ _ ⟨(blk_cell BK510.out 0).trans rfl, (blk_cell BK510.out 1).trans rfl⟩ (fun hHeld => ?_)
 clear hK K
 refine norm_ (a' := ?_) ?_ ?_
 rotate_left
 ·show Act.put _ (some 8) _ = _
  simp only [Act.put, List.setIfInBounds_toArray, List.set_cons_zero, List.set_cons_succ, i64_w, i32_w]
  rfl
 refine one_ (i := 5) (N := some 12) #[true, true, true, true, true, true, false] rfl rfl (by kernel_rfl) (by decide) (fun K hK => ?_)
 refine goes_ Try.func40 (by kernel_rfl) rfl #[.slice Ao9 t511.length co9, .agg #[.int .i64 a1_0, .int .i64 a1_1, .int .i64 a2]] (by rfl) rfl rfl (by (try simp only [List.map_toArray, List.map_cons, List.map_nil]); first | done | rfl | (simp only [List.length_drop, List.length_take]; rfl)) ?_
 with_reducible refine (impl_Fact_40.calls k _ _ t511 a1_0 a1_1 a2 t514 _ ?side1 ?side2 A5.out).mono ?_
 (case side1 => repeat (first | exact (Kd.R_reads' HO513.out).2.2 | (with_reducible refine Kd.C_alloc ?_ _) | (with_reducible refine Kd.C_drewN ?_ _) | (with_reducible refine Kd.C_drew ?_)))
 (case side2 => exact (Kd.R_reads' HO513.out).2.1)
 rintro e w10 ⟨rfl, hb⟩
 refine ⟨_, rfl, ?_⟩
 replace HO513 := hob_ HO513 hb
 replace BK510 := bkb_ BK510 hb
 replace HB := hbs_ hb
 (try clear hb)
 (try clear hb2)
 (try clear hk)
 (try clear hi)
 refine hK.out _ _ ⟨(blk_cell BK510.out 0).trans rfl, (blk_cell BK510.out 1).trans rfl⟩ (fun hHeld => ?_)
 clear hK K
 refine norm_ (a' := ?_) ?_ ?_
 rotate_left
 ·show Act.put _ (some 12) _ = _
  simp only [Act.put, List.setIfInBounds_toArray, List.set_cons_zero, List.set_cons_succ, i64_w, i32_w]
  rfl
 refine pure_ (i := 6) (N := some 6) (v := ?_) (a' := ?_) #[true, true, true, true, true, true, true] rfl rfl (by kernel_rfl) (fun _ _ _ h => h) (Or.inl ⟨by rfl, ?_⟩) ?_ ?_
 rotate_left
 ·intro w'
  go_simp
  with_reducible rfl
 rotate_left
 ·simp only [Act.put, List.setIfInBounds_toArray, List.set_cons_zero, List.set_cons_succ, i64_w, i32_w]
  rfl
 refine done_ (by kernel_rfl) ?_
 try go_wp2
 go_ret
 exact ⟨eq_, bl_⟩
def impl_Critical.l0 : Nat → List (S46) → Int → List Int → Int → Int → Int → Int → Option (List Int)
 | 0, _, _, _, _, _, _, _ => none
 | k + 1, x0, x2, x7, x17, x18, x516000, x516001 => if x18 < x17 then ((impl_Without.f x0 x18).bind fun t520 => ((impl_IsMember.f k t520 x516000 x516001 x2).bind fun t523 => (if t523 = true then (impl_Critical.l0 k x0 x2 x7 x17 (wrap64 (x18 + 1)) x516000 x516001) else (if x7.length < 17592186044416 then (impl_Critical.l0 k x0 x2 (x7 ++ [x18]) x17 (wrap64 (x18 + 1)) x516000 x516001) else (none))))) else (some x7)
def impl_Critical.f (k : Nat) (l0 : List (S46)) (a1_0 : Int) (a1_1 : Int) (a2 : Int) : Option (List Int) := (some (([] : List Int) : List Int)).bind fun y516 => ((impl_IsMember.f k l0 a1_0 a1_1 a2).bind fun t519 => (if t519 = true then (impl_Critical.l0 k l0 a2 y516 (l0.length : Int) 0 a1_0 a1_1) else (some y516)))
set_option maxHeartbeats 8000000 in
set_option maxRecDepth 100000 in
theorem impl_Critical.calls (k : Nat) (A0 : Option Addr) (c0 : Nat) (l0 : List (S46)) (a1_0 : Int) (a1_1 : Int) (a2 : Int) (r : List Int) (w : World) (hr0 : Kd.C k46 w A0 l0.length l0) (hc0 : l0.length ≤ c0) (h : impl_Critical.f k l0 a1_0 a1_1 a2 = some r) :
  Calls Try.prog 14 #[.slice A0 l0.length c0, .agg #[.int .i64 a1_0, .int .i64 a1_1], .int .i64 a2] w fun e w' => ∃ v0_ : Value, e = .returned (v0_) ∧ Kd.R (Kd.int .i64) 3 w' w.heap.size (fun _ => True) v0_ r ∧ Below w.heap.size w w' := by
 have hu27 := Try.underlying27
 have HR0 := aa_ hr0
 have HC0 := aa_ hc0
 clear hr0 hc0
 have HB := aa_ (Below.refl w.heap.size w)
 have H : ((some (([] : List Int) : List Int)).bind fun y516 => ((impl_IsMember.f k l0 a1_0 a1_1 a2).bind fun t519 => (if t519 = true then (impl_Critical.l0 k l0 a2 y516 (l0.length : Int) 0 a1_0 a1_1) else (some y516)))) = some r := h
 clear h
 obtain ⟨y516, hy516⟩ : ∃ y_ : List Int, y_ = (([] : List Int)) := ⟨_, rfl⟩
 replace H : ((impl_IsMember.f k l0 a1_0 a1_1 a2).bind fun t519 => (if t519 = true then (impl_Critical.l0 k l0 a2 y516 (l0.length : Int) 0 a1_0 a1_1) else (some y516))) = some r := rh_ hy516 H
 have Ny516 := aa_ hy516
 clear hy516
 obtain ⟨t519, A4, H⟩ := bindE_ H
 have HC5 := aa_ H
 clear H
 go_enter Try.func14, Try.ntmps14
 go_upto_if 14 with (first | ((with_reducible refine gD_ 4 rfl ?_); refine bx_ (N := 4) (cs := #[.int .i64 a1_0, .int .i64 a1_1]) (t := 27) ?_; intro gb515 hg w6 hbox hb; have BK515 := aa_ (hbox); have GW515 := gs_ hg; have GE515 := gs_ hg; replace HB := hbs_ hb; clear hb hbox hg) | ((with_reducible refine gD_ 9 rfl ?_); refine Kd.R_lit (Kd.int .i64) _ 3 ?hg (N := 9) ?hd (xs := ([] : List Int)) (inner := []) (ok := fun _ => True) (okp := fun _ => True) ?hr ?hp (fun _ hk => hk) trivial (Below.refl _ _) (Nat.le_refl _) (by simp) ?_; (case hd => rfl); (case hg => rfl); (case hr => first | (go_simp; done) | (go_simp; rfl)); (case hp => exact (Reps.none _ _)); intro v517 w7 ho8 hb hg_ hnew_; clear hg_ hnew_; (first | rw [← Ny516.out] at ho8 | (simp only [Int.reduceToNat] at ho8; rw [← Ny516.out] at ho8)); have HO518 := aa_ (Kd.R_lower ho8 bls_); replace BK515 := bkb_ BK515 hb; replace HB := hbs_ hb; clear hb ho8; obtain ⟨hcz9, hfz9⟩ := bcf_ BK515) | ((with_reducible refine gC_ 28 rfl ?_); refine goesC_ (some 13) Try.func28 #[.slice A0 l0.length c0, .agg #[.int .i64 a1_0, .int .i64 a1_1], .int .i64 a2] ?_; (with_reducible refine (impl_IsMember.calls k _ _ l0 a1_0 a1_1 a2 t519 _ ?side1 ?side2 A4.out).mono ?_); (case side1 => repeat (first | exact (Kd.C_below HR0.out HB.out) | (with_reducible refine Kd.C_alloc ?_ _) | (with_reducible refine Kd.C_drewN ?_ _) | (with_reducible refine Kd.C_drew ?_))); (case side2 => exact HC0.out); rintro e w10 ⟨rfl, hb⟩; refine ⟨_, rfl, ?_⟩; replace HO518 := hob_ HO518 hb; replace BK515 := bkb_ BK515 hb; replace HB := hbs_ hb; clear hb))
 (try simp only [Act.put, List.setIfInBounds_toArray, List.set_cons_zero, List.set_cons_succ])
 have H := HC5.out
 clear HC5
 by_cases c11 : t519 = true
 ·subst c11
  replace H := ite_t_ H
  have H' := aa_ H
  clear H
  go_wp2
  go_loopg [7, 18] k (fun kq v7 v18 w' => ∃ (x7_1 : List Int) (x18_1 : Int), v18 = .int .i64 x18_1 ∧ Aside0 (impl_Critical.l0 kq l0 a2 x7_1 (l0.length : Int) x18_1 a1_0 a1_1 = some r) ∧ Aside0 (kq ≤ k) ∧ Aside0 (Kd.R (Kd.int .i64) 3 w' w.heap.size (fun _ => True) v7 x7_1) ∧ Aside0 (w'.heap[gb515]? = some (.cells #[.int .i64 a1_0, .int .i64 a1_1] 27 (0, 0))) ∧ Aside0 (Below w.heap.size w w'))
  case atStart => exact ⟨(y516), (0), rf_, H', ⟨Nat.le_refl _⟩, ⟨rr_ HO518⟩, ⟨bk_ BK515⟩, ⟨bl_⟩⟩
  case round =>
   clear H'
   try clear c1
   try clear c2
   try clear p2
   try clear c11
   try clear hcz9
   try clear hfz9
   obtain ⟨x7_1, x18_1, rfl, HA, HK1, HO_7, BK515, HB⟩ := hrel
   cases gk with
   | zero => exact absurd HA.out (by simp [impl_Critical.l0])
   | succ k1 =>
    have H := HA.out
    clear HA
    simp only [impl_Critical.l0] at H
    by_cases c12 : x18_1 < (l0.length : Int)
    ·rw [if_pos c12] at H
     have c12b0 : decide (x18_1 < (l0.length : Int)) = true := decide_eq_true c12
     clear c12
     (first | rw [c12b0] | (simp only [i64_w, i32_w]; rw [c12b0]) | (have cz_ := c12b0; simp only [Int.ofNat_lt, Int.ofNat_le, gt_iff_lt, ge_iff_le] at cz_; rw [cz_]; clear cz_) | skip)
     obtain ⟨t520, A13, H⟩ := bindE_ H
     obtain ⟨t523, A14, H⟩ := bindE_ H
     have HC15 := aa_ H
     clear H
     try go_wp2
     replace HO_7 := aa_ (Kd.R_drew HO_7.out)
     replace BK515 := aa_ (blk_drew BK515.out)
     replace HB := aa_ (below_drew1 HB.out)
     refine start_ (n := 7) (S := fun w' => w'.cell? ⟨gb515, 0, none⟩ = some (.int .i64 a1_0) ∧ w'.cell? ⟨gb515, 1, none⟩ = some (.int .i64 a1_1)) (ds := []) #[false, false, false, false, false, false, false] (by kernel_rfl) rfl rfl ⟨(blk_cell BK515.out 0).trans rfl, (blk_cell BK515.out 1).trans rfl⟩ (fun hHeld => ?_)
     generalize wr.drew = w16 at HO_7 BK515 HB hHeld ⊢
     refine pure_ (i := 0) (N := some 21) (v := ?_) (a' := ?_) #[true, false, false, false, false, false, false] rfl rfl (by kernel_rfl) (fun _ _ _ h => h) (Or.inl ⟨by rfl, ?_⟩) ?_ ?_
     rotate_left
     ·intro w'
      go_simp
      with_reducible rfl
     rotate_left
     ·simp only [Act.put, List.setIfInBounds_toArray, List.set_cons_zero, List.set_cons_succ, i64_w, i32_w]
      rfl
     refine pure_ (i := 1) (N := some 22) (v := ?_) (a' := ?_) #[true, true, false, false, false, false, false] rfl rfl (by kernel_rfl) (fun _ _ _ h => h) (Or.inl ⟨by rfl, ?_⟩) ?_ ?_
     rotate_left
     ·intro w'
      go_simp
      with_reducible rfl
     rotate_left
     ·simp only [Act.put, List.setIfInBounds_toArray, List.set_cons_zero, List.set_cons_succ, i64_w, i32_w]
      rfl
     refine pure_ (i := 4) (N := some 25) (v := ?_) (a' := ?_) #[true, true, false, false, true, false, false] rfl rfl (by kernel_rfl) (fun _ _ _ h => h) (Or.inl ⟨by rfl, ?_⟩) ?_ ?_
     rotate_left
     ·intro w'
      go_simp
      with_reducible rfl
     rotate_left
     ·simp only [Act.put, List.setIfInBounds_toArray, List.set_cons_zero, List.set_cons_succ, i64_w, i32_w]
      rfl
     refine take_ (i := 3) (N := some 24) (v := ?_) (a' := ?_) #[true, true, false, true, true, false, false] rfl rfl (by kernel_rfl) (fun _ _ _ h => h) (Or.inl ⟨by rfl, ?_⟩) hHeld ?_ ?_
     rotate_left
     ·rintro w' ⟨s0, s1⟩
      go_simp
      with_reducible rfl
     rotate_left
     ·simp only [Act.put, List.setIfInBounds_toArray, List.set_cons_zero, List.set_cons_succ, i64_w, i32_w]
      rfl
     refine one_ (i := 2) (N := some 23) #[true, true, true, true, true, false, false] rfl rfl (by kernel_rfl) (by decide) (fun K hK => ?_)
     refine goes_ Try.func18 (by kernel_rfl) rfl #[.slice A0 l0.length c0, .int .i64 x18_1] (by rfl) rfl rfl (by (try simp only [List.map_toArray, List.map_cons, List.map_nil]); first | done | rfl | (simp only [List.length_drop, List.length_take]; rfl)) ?_
     with_reducible refine (impl_Without.calls _ _ l0 x18_1 t520 _ ?side1 ?side2 A13.out).mono ?_
     (case side1 => repeat (first | exact (Kd.C_below HR0.out HB.out) | (with_reducible refine Kd.C_alloc ?_ _) | (with_reducible refine Kd.C_drewN ?_ _) | (with_reducible refine Kd.C_drew ?_)))
     (case side2 => exact HC0.out)
     rintro e w17 ⟨v521, rfl, ho0, hb⟩
     refine ⟨_, rfl, ?_⟩
     replace HO_7 := hob_ HO_7 hb
     have HO522 := aa_ (Kd.R_lower ho0 bls_)
     replace BK515 := bkb_ BK515 hb
     replace HB := hbs_ hb
     (try clear hb)
     (try clear hb2)
     (try clear hk)
     (try clear hi)
     (try clear ho0)
     obtain ⟨Ao18, co18, eo18⟩ := Kd.R_slice HO522.out
     (first | subst eo18 | (injection eo18 with f1_ f2_ f3_; have f4_ := f1_.symm; have f5_ := f3_.symm; clear f1_ f2_ f3_; subst f4_; subst f5_))
     refine hK.out _ _ ⟨(blk_cell BK515.out 0).trans rfl, (blk_cell BK515.out 1).trans rfl⟩ (fun hHeld => ?_)
     clear hK K
     refine norm_ (a' := ?_) ?_ ?_
     rotate_left
     ·show Act.put _ (some 23) _ = _
      simp only [Act.put, List.setIfInBounds_toArray, List.set_cons_zero, List.set_cons_succ, i64_w, i32_w]
      rfl
     refine one_ (i := 5) (N := some 26) #[true, true, true, true, true, true, false] rfl rfl (by kernel_rfl) (by decide) (fun K hK => ?_)
     refine goes_ Try.func28 (by kernel_rfl) rfl #[.slice Ao18 t520.length co18, .agg #[.int .i64 a1_0, .int .i64 a1_1], .int .i64 a2] (by rfl) rfl rfl (by (try simp only [List.map_toArray, List.map_cons, List.map_nil]); first | done | rfl | (simp only [List.length_drop, List.length_take]; rfl)) ?_
     with_reducible refine (impl_IsMember.calls k1 _ _ t520 a1_0 a1_1 a2 t523 _ ?side1 ?side2 A14.out).mono ?_
     (case side1 => repeat (first | exact (Kd.R_reads' HO522.out).2.2 | (with_reducible refine Kd.C_alloc ?_ _) | (with_reducible refine Kd.C_drewN ?_ _) | (with_reducible refine Kd.C_drew ?_)))
     (case side2 => exact (Kd.R_reads' HO522.out).2.1)
     rintro e w19 ⟨rfl, hb⟩
     refine ⟨_, rfl, ?_⟩
     replace HO_7 := hob_ HO_7 hb
     replace HO522 := hob_ HO522 hb
     replace BK515 := bkb_ BK515 hb
     replace HB := hbs_ hb
     (try clear hb)
     (try clear hb2)
     (try clear hk)
     (try clear hi)
     refine hK.out _ _ ⟨(blk_cell BK515.out 0).trans rfl, (blk_cell BK515.out 1).trans rfl⟩ (fun hHeld => ?_)
     clear hK K
     refine norm_ (a' := ?_) ?_ ?_
     rotate_left
     ·show Act.put _ (some 26) _ = _
      simp only [Act.put, List.setIfInBounds_toArray, List.set_cons_zero, List.set_cons_succ, i64_w, i32_w]
      rfl
     refine pure_ (i := 6) (N := some 27) (v := ?_) (a' := ?_) #[true, true, true, true, true, true, true] rfl rfl (by kernel_rfl) (fun _ _ _ h => h) (Or.inl ⟨by rfl, ?_⟩) ?_ ?_
     rotate_left
     ·intro w'
      go_simp
      with_reducible rfl
     rotate_left
     ·simp only [Act.put, List.setIfInBounds_toArray, List.set_cons_zero, List.set_cons_succ, i64_w, i32_w]
      rfl
     refine done_ (by kernel_rfl) ?_
     go_upto_if 27 with (fail)
     have H := HC15.out
     clear HC15
     by_cases c20 : t523 = true
     ·subst c20
      replace H := ite_t_ H
      have H' := aa_ H
      clear H
      go_wp2
      go_roundg k1
      case measure => have := HK1.out; omega
      case rel => exact ⟨(x7_1), (wrap64 (x18_1 + 1)), rf_, H', ⟨by have := HK1.out; omega⟩, ⟨rr_ HO_7⟩, ⟨bk_ BK515⟩, ⟨bl_⟩⟩
     ·replace c20 := Bool.eq_false_iff.mpr c20
      subst c20
      replace H := ite_f_ H
      obtain ⟨c21, H⟩ := ifn_ H
      have LMc21 := aa_ c21
      clear c21
      obtain ⟨y524, hy524⟩ : ∃ y_ : List Int, y_ = (x7_1 ++ [x18_1]) := ⟨_, rfl⟩
      replace H : (impl_Critical.l0 k1 l0 a2 y524 (l0.length : Int) (wrap64 (x18_1 + 1)) a1_0 a1_1) = some r := rh_ hy524 H
      have Ny524 := aa_ hy524
      clear hy524
      have H' := aa_ H
      clear H
      go_wp2_with (first | ((with_reducible refine gate_builtin (b := .append) (xs := #[.tmp 28, .tmp 30]) rfl ?_); at_builtin; refine Kd.R_append (Kd.int .i64) (w0 := w) w.heap.size rfl (.tmp 28) (.tmp 30) 32 3 (.int .i64 0) 8 rfl Try.underlying32 info3 rfl (by decide) (by omega) u7 x7_1 x18_1 [.int .i64 x18_1] (fun _ => True) (fun _ => False) rfl rfl ?aP (fun _ hk => hk.elim) ?aF ?aO ?aB ?aS ?aL ?_; (case aP => exact rfl); (case aB => exact bl_); (case aF => exact (fun _ _ => trivial)); (case aO => exact (rr_ HO_7)); (case aS => exact bls_); (case aL => have := LMc21.out; omega); intro v525 w22 ho hb hg hat; rw [← Ny524.out] at ho; replace BK515 := aa_ (blk_grown (g := gb515) (o := .cells #[.int .i64 a1_0, .int .i64 a1_1] 27 (0, 0)) (bk_ BK515) hg (Kd.R_ne HO_7.out BK515.out (by decide))); replace HO522 := aa_ (Kd.R_over' (rr_ HO522) (Kd.R_typed (rr_ HO_7)) (by decide) hg); replace HB := aa_ (hb); have HO526 := aa_ (ho); clear HO_7; clear ho hb hg hat))
      go_roundg k1
      case measure => have := HK1.out; omega
      case rel => exact ⟨(y524), (wrap64 (x18_1 + 1)), rf_, H', ⟨by have := HK1.out; omega⟩, ⟨rr_ HO526⟩, ⟨bk_ BK515⟩, ⟨bl_⟩⟩
    ·rw [if_neg c12] at H
     have c12b0 : decide (x18_1 < (l0.length : Int)) = false := decide_eq_false c12
     clear c12
     (first | rw [c12b0] | (simp only [i64_w, i32_w]; rw [c12b0]) | (have cz_ := c12b0; simp only [Int.ofNat_lt, Int.ofNat_le, gt_iff_lt, ge_iff_le] at cz_; rw [cz_]; clear cz_) | skip)
     obtain rfl := Option.some.inj H
     go_wp2
     go_ret
     exact ⟨_, eq_, by (with_reducible repeat (first | apply Kd.R_alloc | apply Kd.R_drewN | apply Kd.R_drew)); exact HO_7.out, bl_⟩
 ·replace c11 := Bool.eq_false_iff.mpr c11
  subst c11
  replace H := ite_f_ H
  obtain rfl := Option.some.inj H
  go_wp2
  go_ret
  exact ⟨_, eq_, by (with_reducible repeat (first | apply Kd.R_alloc | apply Kd.R_drewN | apply Kd.R_drew)); exact HO518.out, bl_⟩
def spec_l07At.l0 : Nat → List (S63) → Int → Int → Int → Int → Option (Int)
 | 0, _, _, _, _, _ => none
 | k + 1, x0, x5, x528000, x528001, x528002 => if x5 < (x0.length : Int) then (if 0 ≤ x5 then (if ((((rd_T63 x0 x5).f1.f0.f0) == x528000 && (((rd_T63 x0 x5).f1.f0.f1) == x528001)) && (((rd_T63 x0 x5).f1.f1) == x528002)) = true then (some x5) else (spec_l07At.l0 k x0 (wrap64 (x5 + 1)) x528000 x528001 x528002)) else (none)) else (some (-1))
def spec_l07At.f (k : Nat) (l0 : List (S63)) (a1_0 : Int) (a1_1 : Int) (a1_2 : Int) : Option (Int) := spec_l07At.l0 k l0 0 a1_0 a1_1 a1_2
set_option maxHeartbeats 8000000 in
set_option maxRecDepth 100000 in
theorem spec_l07At.calls (k : Nat) (A0 : Option Addr) (c0 : Nat) (l0 : List (S63)) (a1_0 : Int) (a1_1 : Int) (a1_2 : Int) (r : Int) (w : World) (hr0 : Kd.C k63 w A0 l0.length l0) (hc0 : l0.length ≤ c0) (h : spec_l07At.f k l0 a1_0 a1_1 a1_2 = some r) :
  Calls Try.prog 30 #[.slice A0 l0.length c0, .agg #[.int .i64 a1_0, .int .i64 a1_1, .int .i64 a1_2]] w fun e w' => e = .returned (.int .i64 r) ∧ Below w.heap.size w w' := by
 have hu29 := Try.underlying29
 have HR0 := aa_ hr0
 have HC0 := aa_ hc0
 clear hr0 hc0
 have HB := aa_ (Below.refl w.heap.size w)
 have H : (spec_l07At.l0 k l0 0 a1_0 a1_1 a1_2) = some r := h
 clear h
 have H' := aa_ H
 clear H
 go_enter Try.func30, Try.ntmps30
 go_wp2_with (first | ((with_reducible refine gD_ 3 rfl ?_); refine bx_ (N := 3) (cs := #[.int .i64 a1_0, .int .i64 a1_1, .int .i64 a1_2]) (t := 29) ?_; intro gb527 hg w3 hbox hb; have BK527 := aa_ (hbox); have GW527 := gs_ hg; have GE527 := gs_ hg; replace HB := hbs_ hb; clear hb hbox hg))
 repeat (go_quiet (first | ((with_reducible refine gD_ 3 rfl ?_); refine bx_ (N := 3) (cs := #[.int .i64 a1_0, .int .i64 a1_1, .int .i64 a1_2]) (t := 29) ?_; intro gb527 hg w3 hbox hb; have BK527 := aa_ (hbox); have GW527 := gs_ hg; have GE527 := gs_ hg; replace HB := hbs_ hb; clear hb hbox hg)); try go_wp2_with (first | ((with_reducible refine gD_ 3 rfl ?_); refine bx_ (N := 3) (cs := #[.int .i64 a1_0, .int .i64 a1_1, .int .i64 a1_2]) (t := 29) ?_; intro gb527 hg w3 hbox hb; have BK527 := aa_ (hbox); have GW527 := gs_ hg; have GE527 := gs_ hg; replace HB := hbs_ hb; clear hb hbox hg)))
 go_loopg [5] k (fun kq v5 w' => ∃ (x5_1 : Int), v5 = .int .i64 x5_1 ∧ Aside0 (spec_l07At.l0 kq l0 x5_1 a1_0 a1_1 a1_2 = some r) ∧ Aside0 (kq ≤ k) ∧ Aside0 (w'.heap[gb527]? = some (.cells #[.int .i64 a1_0, .int .i64 a1_1, .int .i64 a1_2] 29 (0, 0))) ∧ Aside0 (Below w.heap.size w w'))
 case atStart => exact ⟨(0), rf_, H', ⟨Nat.le_refl _⟩, ⟨bk_ BK527⟩, ⟨bl_⟩⟩
 case round =>
  clear H'
  try clear p2
  try clear c3
  obtain ⟨x5_1, rfl, HA, HK1, BK527, HB⟩ := hrel
  cases gk with
  | zero => exact absurd HA.out (by simp [spec_l07At.l0])
  | succ k1 =>
   have H := HA.out
   clear HA
   simp only [spec_l07At.l0] at H
   by_cases c4 : x5_1 < (l0.length : Int)
   ·rw [if_pos c4] at H
    have c4b0 : decide (x5_1 < (l0.length : Int)) = true := decide_eq_true c4
    clear c4
    obtain ⟨c5b0, H⟩ := ifd_ H
    have HC6 := aa_ H
    clear H
    have p528 : 0 ≤ (x5_1 : Int) := od_
    have q528 : x5_1 < (l0.length : Int) := od_
    obtain ⟨ad528, A528_13, c528_13, e528, hx528_0, hx528_1, hx528_2, hx528_3, hx528_4, hx528_5, hx528_6, hx528_7, hx528_8, hx528_9, hx528_10, hx528_11, hx528_12, hx528_13, hl528_13, hi528_13⟩ := at_T63 HR0.out x5_1 p528 q528
    cases e528
    replace hx528_0 := cb_ HB hx528_0
    replace hx528_1 := cb_ HB hx528_1
    replace hx528_2 := cb_ HB hx528_2
    replace hx528_3 := cb_ HB hx528_3
    replace hx528_4 := cb_ HB hx528_4
    replace hx528_5 := cb_ HB hx528_5
    replace hx528_6 := cb_ HB hx528_6
    replace hx528_7 := cb_ HB hx528_7
    replace hx528_8 := cb_ HB hx528_8
    replace hx528_9 := cb_ HB hx528_9
    replace hx528_10 := cb_ HB hx528_10
    replace hx528_11 := cb_ HB hx528_11
    replace hx528_12 := cb_ HB hx528_12
    replace hx528_13 := cb_ HB hx528_13
    have HR528_13 := aa_ hi528_13
    have HC528_13 := aa_ hl528_13
    clear hi528_13 hl528_13
    replace p528 := eq_true p528
    replace q528 := eq_true q528
    have hcz7 := blk_cell BK527.out
    have hfz7 := blk_frozen BK527.out
    go_upto_if 18 with (fail)
    repeat (go_quiet (fail); go_upto_if 18 with (fail))
    have H := HC6.out
    clear HC6
    by_cases c8 : ((((rd_T63 l0 x5_1).f1.f0.f0) == a1_0 && (((rd_T63 l0 x5_1).f1.f0.f1) == a1_1)) && (((rd_T63 l0 x5_1).f1.f1) == a1_2)) = true
    ·rw [if_pos c8] at H
     have c8b0 : ((((rd_T63 l0 x5_1).f1.f0.f0) == a1_0 && (((rd_T63 l0 x5_1).f1.f0.f1) == a1_1)) && (((rd_T63 l0 x5_1).f1.f1) == a1_2)) = true := c8
     clear c8
     (first | rw [c8b0] | (simp only [i64_w, i32_w]; rw [c8b0]) | skip)
     obtain rfl := Option.some.inj H
     go_wp2
     repeat (go_quiet (fail); try go_wp2)
     go_ret
     exact ⟨eq_, bl_⟩
    ·rw [if_neg c8] at H
     have c8b0 : ((((rd_T63 l0 x5_1).f1.f0.f0) == a1_0 && (((rd_T63 l0 x5_1).f1.f0.f1) == a1_1)) && (((rd_T63 l0 x5_1).f1.f1) == a1_2)) = false := by simpa using c8
     clear c8
     (first | rw [c8b0] | (simp only [i64_w, i32_w]; rw [c8b0]) | skip)
     have H' := aa_ H
     clear H
     go_wp2
     repeat (go_quiet (fail); try go_wp2)
     go_roundg k1
     case measure => have := HK1.out; omega
     case rel => exact ⟨(wrap64 (x5_1 + 1)), rf_, H', ⟨by have := HK1.out; omega⟩, ⟨bk_ BK527⟩, ⟨bl_⟩⟩
   ·rw [if_neg c4] at H
    have c4b0 : decide (x5_1 < (l0.length : Int)) = false := decide_eq_false c4
    clear c4
    obtain rfl := Option.some.inj H
    go_wp2
    repeat (go_quiet (fail); try go_wp2)
    go_ret
    exact ⟨eq_, bl_⟩
end Go.Proofs.Ytcbhmcpdnokbiaa.PA
