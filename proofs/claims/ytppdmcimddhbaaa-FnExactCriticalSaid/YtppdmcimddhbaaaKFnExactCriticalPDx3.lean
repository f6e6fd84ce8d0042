import Derived.Test.YtppdmcimddhbaaaKFnExactCriticalPDx0
import Derived.Test.YtppdmcimddhbaaaKFnExactCriticalPDx1
import Derived.Test.YtppdmcimddhbaaaKFnExactCriticalPDx2
-- A text of this claim: written by the session's own program out of the translation (wip/tools). Lean checks it.
namespace Go.Proofs.Ytppdmcimddhbaaa.PD
open Go.RowKit Go.Proofs.YtppdmcimddhbaaaW.PrintWords Go.Proofs.YtppdmcimddhbaaaW.PrintLast Go.Proofs.YtppdmcimddhbaaaW.PrintMore
attribute [local go_sem] max2_int min2_int max_two min_two max_three min_three max_four min_four   -- for this text's walks alone
set_option linter.unusedVariables false
set_option linter.unusedSimpArgs false
attribute [local go_sem high] eqA27 eqA29
def impl_Cred_82.f (l0 : List (S46)) : Option (List (S46)) := if l0.length < 1759218604441 then some l0 else none
set_option maxHeartbeats 8000000 in
set_option maxRecDepth 100000 in
theorem impl_Cred_82.calls (A0 : Option Addr) (c0 : Nat) (l0 : List (S46)) (r : List (S46)) (w : World) (hr0 : Kd.C k46 w A0 l0.length l0) (hc0 : l0.length ≤ c0) (h : impl_Cred_82.f l0 = some r) :
  Calls Try.prog 82 #[.slice A0 l0.length c0] w fun e w' => ∃ v0_ : Value, e = .returned (v0_) ∧ Kd.R k46 46 w' w.heap.size (fun _ => True) v0_ r ∧ Below w.heap.size w w' := by
 have HR0 := Aside0.mk hr0
 have HC0 := Aside0.mk hc0
 clear hr0 hc0
 have hq : ∀ (w : World) (a : Option Addr) (n c n' c' : Nat), (binOp .eql 24 (.slice a n c) (.slice none n' c')).run Try.prog w = .ok (.bool a.isNone) w := fun w a n c n' c' => Lib.run_eql_slice_nil w _ _ a n c n' c' Try.underlying24
 have HB := Aside0.mk (Below.refl w.heap.size w)
 unfold impl_Cred_82.f at h
 by_cases hl : l0.length < 1759218604441
 ·rw [if_pos hl] at h
  have LM := Aside0.mk hl
  clear hl
  obtain rfl := Option.some.inj h
  clear h
  cases A0 with
  | none =>
   have e0 : l0 = [] := by
    rcases l0 with _ | ⟨x, xs⟩
    ·rfl
    ·obtain ⟨ad, c, e, _⟩ := Kd.C_get HR0.out x 0 (by omega) (by rw [List.length_cons]; omega)
     cases e
   subst e0
   clear HR0 HC0 LM
   go_enter Try.func82, Try.ntmps82
   go_wp2
   go_ret
   exact ⟨_, eq_, Kd.R_nil _ _ _ _ _, bl_⟩
  | some ad =>
   obtain ⟨y1, hy1⟩ : ∃ y_ : List (S46), y_ = (([] : List (S46))) := ⟨_, rfl⟩
   have Ny1 := Aside0.mk hy1
   clear hy1
   go_enter Try.func82, Try.ntmps82
   go_wp2_with (first | ((with_reducible refine gate_dst (N := 5) rfl ?_); refine Kd.R_lit k46 _ 46 ?hg (N := 5) ?hd (xs := ([] : List (S46))) (inner := []) (ok := fun _ => True) (okp := fun _ => True) ?hr ?hp (fun _ hk => hk) trivial (Below.refl _ _) (Nat.le_refl _) (by simp) ?_; (case hd => rfl); (case hg => rfl); (case hr => first | (go_simp; done) | (go_simp; rfl)); (case hp => exact (Reps.none _ _)); intro v161 w9 ho10 hb hg_ hnew_; clear hg_ hnew_; (first | rw [← Ny1.out] at ho10 | (simp only [Int.reduceToNat] at ho10; rw [← Ny1.out] at ho10)); have HO162 := Aside0.mk (Kd.R_lower ho10 bls_); replace HB := hbs_ hb; clear hb ho10) | ((with_reducible refine gate_builtin (b := .append) (xs := #[.tmp 5, .tmp 6]) rfl ?_); at_builtin; refine Kd.R_append_rows k46 (w0 := w) w.heap.size rfl (.tmp 5) (.tmp 6) 24 46 (.agg #[(.int .i64 0), (.int .i64 0), (.int .i64 0), (.int .i64 0), (.int .i64 0), (.int .i64 0), (.int .i64 0), (.int .i64 0), (.int .i64 0), (.int .i64 0)]) 80 rfl Try.underlying24 info46 rfl (by decide) (by omega) v161 y1 l0 _ _ _ (fun _ => True) (fun _ => False) rfl rfl ?aO ?aR (fun _ _ h => h) (fun _ h => h.elim) ?aF ?aB ?aS ?aL ?_; (case aR => repeat (first | exact (Kd.C_below HR0.out HB.out) | (with_reducible refine Kd.C_alloc ?_ _) | (with_reducible refine Kd.C_drewN ?_ _) | (with_reducible refine Kd.C_drew ?_))); (case aB => exact bl_); (case aF => exact (fun _ _ => trivial)); (case aO => exact (by (with_reducible repeat (first | apply Kd.R_alloc | apply Kd.R_drewN | apply Kd.R_drew)); exact HO162.out)); (case aS => exact bls_); (case aL => have := LM.out; rw [Ny1.out]; simp only [List.length_nil]; omega); intro v164 w11 ho hb hg hat; rw [Ny1.out, List.nil_append] at ho; replace HB := Aside0.mk (hb); have HO165 := Aside0.mk (ho); clear HO162; clear ho hb hg hat))
   go_ret
   exact ⟨_, eq_, by (with_reducible repeat (first | apply Kd.R_alloc | apply Kd.R_drewN | apply Kd.R_drew)); exact HO165.out, bl_⟩
 ·rw [if_neg hl] at h
  exact absurd h (by simp)
def impl_in.f (a0 : Int) (a1 : Int) (a2 : Int) : Option (Bool) := if a0 ≥ a1 then (some (decide (a0 ≤ a2))) else (some false)
set_option maxHeartbeats 8000000 in
set_option maxRecDepth 100000 in
theorem impl_in.calls (a0 : Int) (a1 : Int) (a2 : Int) (r : Bool) (w : World) (h : impl_in.f a0 a1 a2 = some r) :
  Calls Try.prog 83 #[.int .i64 a0, .int .i64 a1, .int .i64 a2] w fun e w' => e = .returned (.bool r) ∧ Drawn0 w w' := by
 have H : (if a0 ≥ a1 then (some (decide (a0 ≤ a2))) else (some false)) = some r := h
 clear h
 by_cases c4 : a0 ≥ a1
 ·rw [if_pos c4] at H
  have c4b0 : decide (a1 ≤ a0) = true := decide_eq_true c4
  clear c4
  obtain rfl := Option.some.inj H
  go_enter Try.func83, Try.ntmps83
  go_wp2
  go_ret
  exact ⟨by first | rfl | (simp; done) | (simp [*]; done), by repeat (first | exact Drawn0.refl _ | apply Drawn0.step)⟩
 ·rw [if_neg c4] at H
  have c4b0 : decide (a1 ≤ a0) = false := decide_eq_false c4
  clear c4
  obtain rfl := Option.some.inj H
  go_enter Try.func83, Try.ntmps83
  go_wp2
  go_ret
  exact ⟨by first | rfl | (simp; done) | (simp [*]; done), by repeat (first | exact Drawn0.refl _ | apply Drawn0.step)⟩
-- NOT PRINTED: function 84 (impl_Cred_84)
def impl_Without.f (l0 : List (S46)) (a1 : Int) : Option (List (S46)) := if l0.length < 1759218604441 then some (if 0 ≤ a1 ∧ a1 < (l0.length : Int) then l0.eraseIdx a1.toNat else l0) else none
theorem impl_Without.clear_any {P : Program} (w : World) (t e ty : TypeId) (z : Value) (ht : P.underlying t = some (.slice e)) (hv : ∀ w, (zeroValue e).run P w = .ok z w) (b o n c : Nat) (hn : 0 < n) (L : List Value) (hL : (Builtin.zeroCells z.cells n).toList = L) (h1 : ∀ u ∈ L, u.oneCell' = true)
  (hc : ∀ j, j < L.length → (w.cell? ⟨b, o + j, none⟩).isSome = true) (hf : ∀ j, j < L.length → w.frozen? ⟨b, o + j, none⟩ = false) :
  (Builtin.clear_ #[t] ty #[.slice (some ⟨b, o, none⟩) n c]).run P w = .ok (.tuple #[]) (w.setCells b o L) := by
 have hst := run_storeCells_cells (P := P) b o L 0 w (by simpa using hc) (by simpa using hf) h1
 simp only [Nat.add_zero] at hst
 obtain ⟨m, rfl⟩ : ∃ m, n = m + 1 := ⟨n - 1, by omega⟩
 simp [Builtin.clear_, run_underlying ht, hv, hL, hst]
theorem impl_Without.spare {α : Type} {d : Kd α} {e : Nat} {w : World} {base : Nat} {ok : Nat → Prop} {g n c : Nat} {xs : List α} (h : d.R e w base ok (.slice (some ⟨g, 0, none⟩) n c) xs) (o : Nat) (L : List Value) (ho : n * d.sz ≤ o) (hfit : o + L.length ≤ c * d.sz) :
  d.R e (w.setCells g o L) base ok (.slice (some ⟨g, 0, none⟩) n c) xs ∧ w.grownBy (w.setCells g o L) (some g) ∧ (∀ j, j < L.length → (w.cell? ⟨g, o + j, none⟩).isSome = true ∧ w.frozen? ⟨g, o + j, none⟩ = false) := by
 obtain ⟨hn, hnc, _⟩ := Kd.R_reads' h
 obtain ⟨hok, inner, hown, hr⟩ := h
 rcases hown.2 with ⟨hv, _⟩ | ⟨g', cap', cur, hv, hb, hh, h3, hcm, hcs, htake⟩
 ·cases hv
 injection hv with ha _ hc
 injection ha with ha
 injection ha with hg
 subst hg; subst hc
 rw [← hn] at htake
 have hf : o + L.length ≤ cur.size := by omega
 obtain ⟨cur', q1, q2, q3⟩ := setCells_row L o w cur hh hf
 obtain ⟨s1, s2, s3, s4⟩ := setCells_same g L o w
 have hfar : ∀ k', k' ≠ g → (w.setCells g o L).heap[k']? = w.heap[k']? := fun k' hk' => setCells_far L _ k' hk'
 refine ⟨⟨hok, inner, ⟨hown.1, .inr ⟨g, c, cur', by rw [← hn], hb, q1, by rw [← hn]; exact hnc, hcm, by rw [q2, hcs], ?_⟩⟩, ?_⟩, ⟨s1, s2, s3, by rw [s4]; exact Nat.le_refl _, fun k' _ hk' => hfar k' (fun he => hk' (by rw [he]))⟩, ?_⟩
 ·rw [q3, ← hn, List.append_assoc, List.take_append_of_le_length (by rw [List.length_take, Array.length_toList]; omega), List.take_take, Nat.min_eq_left ho, htake]
 ·exact hr.imp_ (fun p q hp => d.M_move (fun k' hk' => hfar k' (fun he => hk'.2 (by simp [Value.ownBlock, he]))) hp)
 ·intro j hj
  rw [cell_of_row w g _ cur e (0, 0) hh]
  exact ⟨by simp; omega, blk_frozen hh _⟩
theorem impl_Without.zcells : (Builtin.zeroCells (Value.agg #[(.int .i64 0), (.int .i64 0), (.int .i64 0), (.int .i64 0), (.int .i64 0), (.int .i64 0), (.int .i64 0), (.int .i64 0), (.int .i64 0), (.int .i64 0)]).cells 1).toList = List.replicate 10 (.int .i64 0) := by kernel_rfl
theorem impl_Without.zval (w : World) : (zeroValue 46).run Try.prog w = .ok (Value.agg #[(.int .i64 0), (.int .i64 0), (.int .i64 0), (.int .i64 0), (.int .i64 0), (.int .i64 0), (.int .i64 0), (.int .i64 0), (.int .i64 0), (.int .i64 0)]) w := by kernel_rfl
set_option maxHeartbeats 4000000 in
set_option maxRecDepth 100000 in
theorem impl_Without.del {w0 w : World} {base : Nat} {ok : Nat → Prop} (g c m : Nat) (xs : List S46) (i : Nat) (HO : Kd.R k46 46 w base ok (.slice (some ⟨g, 0, none⟩) (m + 1) c) xs) (hi : i ≤ m) (hB : Below base w0 w) (hbase : base ≤ w.heap.size) :
  Calls Try.prog 84 #[.slice (some ⟨g, 0, none⟩) (m + 1) c, .int .i64 (i : Int), .int .i64 ((i : Int) + 1)] w fun e w' => e = .returned (.slice (some ⟨g, 0, none⟩) m c) ∧ Kd.R k46 46 w' base ok (.slice (some ⟨g, 0, none⟩) m c) (xs.eraseIdx i) ∧ Below base w0 w' := by
 have hcm : c ≤ 9223372036854775807 := by
  obtain ⟨_, inner, hown, _⟩ := HO
  rcases hown.2 with ⟨hv, _⟩ | ⟨g', cap', cur, hv, _, _, _, h, _⟩
  ·cases hv
  ·injection hv with _ _ hc
   subst hc
   simpa [maxLen] using h
 have hnc : m + 1 ≤ c := (Kd.R_reads' HO).2.1
 have hic : i ≤ c := by omega
 have hi1 : i + 1 ≤ c := by omega
 have hin : i + 1 ≤ m + 1 := by omega
 have h0 : (0 : Int) ≤ (i : Int) := by omega
 have hI1 : (0 : Int) ≤ (i : Int) + 1 := by omega
 have hI2 : (i : Int) + 1 ≤ (m : Int) + 1 := by omega
 have hI3 : (0 : Int) ≤ (m : Int) := by omega
 have hmc : m ≤ c := by omega
 have hne : ¬ c = m := by omega
 have HOa := Aside0.mk HO
 have HBa := Aside0.mk hB
 have HSa := Aside0.mk hbase
 clear HO hB hbase
 have hu46 := Try.underlying46
 obtain ⟨L, hL⟩ : ∃ L : List Value, L = List.replicate 10 (.int .i64 0) := ⟨_, rfl⟩
 have HLl := Aside0.mk (show L.length = 10 by rw [hL]; rfl)
 have HL1 := Aside0.mk (show ∀ u ∈ L, u.oneCell' = true by rw [hL]; intro u hu; rw [List.eq_of_mem_replicate hu]; rfl)
 have HL := Aside0.mk (impl_Without.zcells.trans hL.symm)
 clear hL
 go_enter Try.func84, Try.ntmps84
 go_wp2_with fail
 go_region_law (refine Kd.R_delete_step k46 (w0 := w0) base rfl (.tmp 22) (.tmp 25) 24 46 rfl Try.underlying24 (by rw [Option.map_eq_some_iff]; obtain ⟨i0, e0, h0_⟩ := Option.map_eq_some_iff.1 info46; exact ⟨i0, e0, by injection h0_ with _ h1_; injection h1_⟩) (g := g) (n := m + 1) (c := c) (k := i) (m := m - i) (c2 := c - (i + 1)) (xs := xs) (ok := ok) rfl rfl (by simp only [Option.map_some, add_plain]; rfl) (by omega) (Kd.R_drew HOa.out) (by omega) (below_drew HBa.out) (by simpa using HSa.out) ?_; intro w1 hR1 hB1 hg1; have HR1 := Aside0.mk (show Kd.R k46 46 w1 base ok (.slice (some ⟨g, 0, none⟩) m c) (xs.eraseIdx i) from hR1); have HB1 := Aside0.mk hB1; have HW1 := Aside0.mk (show base ≤ w1.heap.size from Nat.le_trans HSa.out (by have := hg1.size; simpa using this)); clear hR1 hB1 hg1)
 all_goals
  obtain ⟨hS1, hS2, hS3⟩ := impl_Without.spare HR1.out (m * 10) L (Nat.le_refl _) (by have := HLl.out; show m * 10 + L.length ≤ c * 10; omega)
  have hcl : ∀ ty, (Builtin.clear_ #[24] ty #[.slice (some ⟨g, m * 10, none⟩) 1 (c - m)]).run Try.prog w1 = .ok (.tuple #[]) (w1.setCells g (m * 10) L) := fun ty => impl_Without.clear_any w1 24 46 ty _ Try.underlying24 impl_Without.zval g (m * 10) 1 (c - m) (by omega) L HL.out HL1.out (fun j hj => (hS3 j hj).1) (fun j hj => (hS3 j hj).2)
  have HS1 := Aside0.mk hS1
  have HS2 := Aside0.mk hS2
  clear hS1 hS2 hS3
  go_wp2
  all_goals
   go_ret
   refine ⟨rfl, by first | exact HS1.out | (have h_ : c = i + 1 := (by assumption); rw [← h_]; exact HS1.out), HB1.out.grown HS2.out HW1.out (fun k hk => ?_)⟩
   injection hk with hk
   subst hk
   exact Kd.R_base HR1.out _ (by simp [Value.ownBlock])
set_option maxHeartbeats 4000000 in
set_option maxRecDepth 100000 in
theorem impl_Without.calls (A0 : Option Addr) (c0 : Nat) (l0 : List (S46)) (a1 : Int) (r : List (S46)) (w : World) (hr0 : Kd.C k46 w A0 l0.length l0) (hc0 : l0.length ≤ c0) (h : impl_Without.f l0 a1 = some r) :
  Calls Try.prog 28 #[.slice A0 l0.length c0, .int .i64 a1] w fun e w' => ∃ v0_ : Value, e = .returned (v0_) ∧ Kd.R k46 46 w' w.heap.size (fun _ => True) v0_ r ∧ Below w.heap.size w w' := by
 have HR0 := Aside0.mk hr0
 have HC0 := Aside0.mk hc0
 clear hr0 hc0
 unfold impl_Without.f at h
 by_cases hl : l0.length < 1759218604441
 ·rw [if_pos hl] at h
  have H := Aside0.mk (Option.some.inj h)
  clear h
  have HCl := Aside0.mk (show impl_Cred_82.f l0 = some l0 by unfold impl_Cred_82.f; rw [if_pos hl])
  by_cases hin : 0 ≤ a1 ∧ a1 < (l0.length : Int)
  ·have HI := Aside0.mk (show impl_in.f a1 0 ((l0.length : Int) - 1) = some true by unfold impl_in.f; rw [if_pos (by omega)]; simp; omega)
   obtain ⟨h1, h2⟩ := hin
   obtain ⟨i, rfl⟩ := Int.eq_ofNat_of_zero_le h1
   have hi : i < l0.length := by omega
   obtain ⟨m, hm⟩ : ∃ m, l0.length = m + 1 := ⟨l0.length - 1, by omega⟩
   have e2 : (0 : Int) ≤ (l0.length : Int) - 1 := by omega
   have e3 : (l0.length : Int) ≤ 1759218604441 := by omega
   have e4 : (i : Int) ≤ 1759218604441 := by omega
   have HM := Aside0.mk hm
   clear hm
   go_enter Try.func28, Try.ntmps28
   go_wp2_with (first | ((with_reducible refine gate_callee (f := 82) rfl ?_); refine goesC_ (some 7) Try.func82 #[.slice A0 l0.length c0] ?_; (with_reducible refine (impl_Cred_82.calls _ _ l0 l0 _ ?side1 ?side2 HCl.out).mono ?_); (case side1 => exact HR0.out); (case side2 => exact HC0.out); rintro e w1 ⟨v1, rfl, ho, hb⟩; refine ⟨_, rfl, ?_⟩; have HO := Aside0.mk ho; have HB := Aside0.mk hb; clear ho hb) | ((with_reducible refine gate_callee (f := 83) rfl ?_); refine goesC_ (some 12) Try.func83 #[.int .i64 (i : Int), .int .i64 0, .int .i64 ((l0.length : Int) - 1)] ?_; (with_reducible refine (impl_in.calls (i : Int) 0 ((l0.length : Int) - 1) true _ HI.out).mono ?_); rintro e w' ⟨rfl, ⟨nd, rfl⟩⟩; refine ⟨_, rfl, ?_⟩))
   obtain ⟨g, cap, ev, _⟩ := Kd.R_form HO.out (by omega)
   subst ev
   have HO2 := Aside0.mk (show Kd.R k46 46 (w1.drewN nd) w.heap.size (fun _ => True) (.slice (some ⟨g, 0, none⟩) (m + 1) cap) l0 from by rw [← HM.out]; exact Kd.R_drewN HO.out nd)
   rw [show (Value.slice (some ⟨g, 0, none⟩) l0.length cap) = Value.slice (some ⟨g, 0, none⟩) (m + 1) cap from by rw [HM.out]]
   refine (impl_Without.del (w0 := w) (base := w.heap.size) g cap m l0 i HO2.out (by have := HM.out; omega) (pw_below_drewN HB.out nd) (by have := HB.out.size; simpa using this)).mono ?_
   rintro e w2 ⟨rfl, hR, hb⟩
   have HR := Aside0.mk hR
   have HB2 := Aside0.mk hb
   clear hR hb
   go_wp2
   go_ret
   refine ⟨_, rfl, ?_, HB2.out⟩
   have e := H.out
   rw [if_pos ⟨by omega, by omega⟩] at e
   rw [← e, show ((i : Int)).toNat = i from rfl]
   have HR' := HR.out
   have el : (l0.eraseIdx i).length = m := by rw [List.length_eraseIdx_of_lt hi]; have := HM.out; omega
   exact HR'
  ·have HI := Aside0.mk (show impl_in.f a1 0 ((l0.length : Int) - 1) = some false by
    unfold impl_in.f
    by_cases h0 : a1 ≥ 0
    ·rw [if_pos h0]; simp; omega
    ·rw [if_neg h0])
   have HN := Aside0.mk hin
   have e3 : (l0.length : Int) ≤ 1759218604441 := by omega
   clear hin
   go_enter Try.func28, Try.ntmps28
   go_wp2_with (first | ((with_reducible refine gate_callee (f := 82) rfl ?_); refine goesC_ (some 7) Try.func82 #[.slice A0 l0.length c0] ?_; (with_reducible refine (impl_Cred_82.calls _ _ l0 l0 _ ?side1 ?side2 HCl.out).mono ?_); (case side1 => exact HR0.out); (case side2 => exact HC0.out); rintro e w1 ⟨v1, rfl, ho, hb⟩; refine ⟨_, rfl, ?_⟩; have HO := Aside0.mk ho; have HB := Aside0.mk hb; clear ho hb) | ((with_reducible refine gate_callee (f := 83) rfl ?_); refine goesC_ (some 12) Try.func83 #[.int .i64 a1, .int .i64 0, .int .i64 ((l0.length : Int) - 1)] ?_; (with_reducible refine (impl_in.calls a1 0 ((l0.length : Int) - 1) false _ HI.out).mono ?_); rintro e w' ⟨rfl, ⟨nd, rfl⟩⟩; refine ⟨_, rfl, ?_⟩))
   go_ret
   have e := H.out
   rw [if_neg HN.out] at e
   subst e
   exact ⟨_, rfl, Kd.R_drewN HO.out nd, pw_below_drewN HB.out nd⟩
 ·rw [if_neg hl] at h
  exact absurd h (by simp)
def impl_RoleOk.f (a0_0 : Int) (a0_1 : Int) : Option (Bool) := (impl_in.f a0_0 0 5).bind fun t102 => (if t102 = true then ((impl_in.f a0_1 0 3).bind fun t103 => (some t103)) else (some false))
set_option maxHeartbeats 8000000 in
set_option maxRecDepth 100000 in
theorem impl_RoleOk.calls (a0_0 : Int) (a0_1 : Int) (r : Bool) (w : World) (h : impl_RoleOk.f a0_0 a0_1 = some r) :
  Calls Try.prog 103 #[.agg #[.int .i64 a0_0, .int .i64 a0_1]] w fun e w' => e = .returned (.bool r) ∧ Below w.heap.size w w' := by
 have hu27 := Try.underlying27
 have HB := Aside0.mk (Below.refl w.heap.size w)
 have H : ((impl_in.f a0_0 0 5).bind fun t102 => (if t102 = true then ((impl_in.f a0_1 0 3).bind fun t103 => (some t103)) else (some false))) = some r := h
 clear h
 obtain ⟨t102, A2, H⟩ := bindE_ H
 by_cases c3 : t102 = true
 ·subst c3
  replace H := ite_t_ H
  obtain ⟨t103, A4, H⟩ := bindE_ H
  obtain rfl := Option.some.inj H
  go_enter Try.func103, Try.ntmps103
  go_wp2_with (first | ((with_reducible refine gate_dst (N := 1) rfl ?_); refine box_event ?hg (N := 1) ?hd (cs := #[.int .i64 a0_0, .int .i64 a0_1]) (t := 27) ?hr ?_; (case hd => rfl); (case hg => rfl); (case hr => first | (go_simp; done) | (go_simp; rfl)); intro gb101 hg w5 hbox hb; have BK101 := Aside0.mk (hbox); have GW101 := gs_ hg; have GE101 := gs_ hg; replace HB := hbs_ hb; clear hb hbox hg; have hcz6 := blk_cell BK101.out; have hfz6 := blk_frozen BK101.out) | ((with_reducible refine gate_callee (f := 83) rfl ?_); refine goesC_ (some 5) Try.func83 #[.int .i64 a0_0, .int .i64 0, .int .i64 5] ?_; (with_reducible refine (impl_in.calls a0_0 0 5 true _ A2.out).mono ?_); rintro e w' ⟨rfl, ⟨nd, rfl⟩⟩; refine ⟨_, rfl, ?_⟩) | (go_at_call 83; (with_reducible refine (impl_in.calls a0_1 0 3 t103 _ A4.out).mono ?_); rintro e w' ⟨rfl, ⟨nd, rfl⟩⟩))
  go_ret
  exact ⟨eq_, bl_⟩
 ·replace c3 := Bool.eq_false_iff.mpr c3
  subst c3
  replace H := ite_f_ H
  obtain rfl := Option.some.inj H
  go_enter Try.func103, Try.ntmps103
  go_wp2_with (first | ((with_reducible refine gate_dst (N := 1) rfl ?_); refine box_event ?hg (N := 1) ?hd (cs := #[.int .i64 a0_0, .int .i64 a0_1]) (t := 27) ?hr ?_; (case hd => rfl); (case hg => rfl); (case hr => first | (go_simp; done) | (go_simp; rfl)); intro gb101 hg w7 hbox hb; have BK101 := Aside0.mk (hbox); have GW101 := gs_ hg; have GE101 := gs_ hg; replace HB := hbs_ hb; clear hb hbox hg; have hcz8 := blk_cell BK101.out; have hfz8 := blk_frozen BK101.out) | ((with_reducible refine gate_callee (f := 83) rfl ?_); refine goesC_ (some 5) Try.func83 #[.int .i64 a0_0, .int .i64 0, .int .i64 5] ?_; (with_reducible refine (impl_in.calls a0_0 0 5 false _ A2.out).mono ?_); rintro e w' ⟨rfl, ⟨nd, rfl⟩⟩; refine ⟨_, rfl, ?_⟩))
  go_ret
  exact ⟨eq_, bl_⟩
def impl_isPerson.f (a0 : Int) : Option (Bool) := (impl_in.f a0 0 5).bind fun t104 => (some t104)
set_option maxHeartbeats 8000000 in
set_option maxRecDepth 100000 in
theorem impl_isPerson.calls (a0 : Int) (r : Bool) (w : World) (h : impl_isPerson.f a0 = some r) :
  Calls Try.prog 121 #[.int .i64 a0] w fun e w' => e = .returned (.bool r) ∧ Drawn0 w w' := by
 have H : ((impl_in.f a0 0 5).bind fun t104 => (some t104)) = some r := h
 clear h
 obtain ⟨t104, A2, H⟩ := bindE_ H
 obtain rfl := Option.some.inj H
 go_enter Try.func121, Try.ntmps121
 go_wp2_with (first | ((with_reducible refine gate_callee (f := 83) rfl ?_); refine goesC_ (some 4) Try.func83 #[.int .i64 a0, .int .i64 0, .int .i64 5] ?_; (with_reducible refine (impl_in.calls a0 0 5 t104 _ A2.out).mono ?_); rintro e w' ⟨rfl, ⟨nd, rfl⟩⟩; refine ⟨_, rfl, ?_⟩))
 go_ret
 exact ⟨by first | rfl | (simp; done) | (simp [*]; done), by repeat (first | exact Drawn0.refl _ | apply Drawn0.step)⟩
def impl_CredOk.j0 : Nat → Bool → Int → Int → Int → Int → Int → Int → Int → Int → Int → Int → Option (Bool)
 | 0, _, _, _, _, _, _, _, _, _, _, _ => none
 | k + 1, x19, x106000, x106001, x106002, x106003, x106004, x106005, x106006, x106007, x106008, x106009 => if x19 = true then (some false) else (if x106000 = 1 then ((impl_isPerson.f x106003).bind fun t110 => (if t110 = true then (if (x106004 == 0 && (x106005 == 0)) = true then (some (x106006 == 0 && (x106007 == 0))) else (some false)) else (some false))) else (if x106000 = 2 then (if x106003 = 0 then ((impl_RoleOk.f x106004 x106005).bind fun t111 => (if t111 = true then (some (x106006 == 0 && (x106007 == 0))) else (some false))) else (some false)) else (if x106000 = 3 then (if x106003 = 0 then ((impl_RoleOk.f x106004 x106005).bind fun t112 => (if t112 = true then ((impl_RoleOk.f x106006 x106007).bind fun t113 => (if t113 = true then (some (x106006 == 0)) else (some false))) else (some false))) else (some false)) else (if x106000 = 4 then (if x106003 = 0 then ((impl_RoleOk.f x106004 x106005).bind fun t114 => (if t114 = true then ((impl_RoleOk.f x106006 x106007).bind fun t115 => (some t115)) else (some false))) else (some false)) else (some false)))))
def impl_CredOk.f (k : Nat) (a0_0 : Int) (a0_1 : Int) (a0_2 : Int) (a0_3 : Int) (a0_4 : Int) (a0_5 : Int) (a0_6 : Int) (a0_7 : Int) (a0_8 : Int) (a0_9 : Int) : Option (Bool) := (impl_RoleOk.f a0_1 a0_2).bind fun t106 => (if t106 = true then ((impl_in.f a0_8 1 9999).bind fun t107 => (if t107 = true then ((impl_in.f a0_9 0 99).bind fun t108 => (impl_CredOk.j0 k (!t108) a0_0 a0_1 a0_2 a0_3 a0_4 a0_5 a0_6 a0_7 a0_8 a0_9)) else (impl_CredOk.j0 k true a0_0 a0_1 a0_2 a0_3 a0_4 a0_5 a0_6 a0_7 a0_8 a0_9))) else (impl_CredOk.j0 k true a0_0 a0_1 a0_2 a0_3 a0_4 a0_5 a0_6 a0_7 a0_8 a0_9))
set_option maxHeartbeats 8000000 in
set_option maxRecDepth 100000 in
theorem impl_CredOk.calls (k : Nat) (a0_0 : Int) (a0_1 : Int) (a0_2 : Int) (a0_3 : Int) (a0_4 : Int) (a0_5 : Int) (a0_6 : Int) (a0_7 : Int) (a0_8 : Int) (a0_9 : Int) (r : Bool) (w : World) (h : impl_CredOk.f k a0_0 a0_1 a0_2 a0_3 a0_4 a0_5 a0_6 a0_7 a0_8 a0_9 = some r) :
  Calls Try.prog 75 #[.agg #[.int .i64 a0_0, .int .i64 a0_1, .int .i64 a0_2, .int .i64 a0_3, .int .i64 a0_4, .int .i64 a0_5, .int .i64 a0_6, .int .i64 a0_7, .int .i64 a0_8, .int .i64 a0_9]] w fun e w' => e = .returned (.bool r) ∧ Below w.heap.size w w' := by
 have hu46 := Try.underlying46
 have hu27 := Try.underlying27
 have HB := Aside0.mk (Below.refl w.heap.size w)
 have H : ((impl_RoleOk.f a0_1 a0_2).bind fun t106 => (if t106 = true then ((impl_in.f a0_8 1 9999).bind fun t107 => (if t107 = true then ((impl_in.f a0_9 0 99).bind fun t108 => (impl_CredOk.j0 k (!t108) a0_0 a0_1 a0_2 a0_3 a0_4 a0_5 a0_6 a0_7 a0_8 a0_9)) else (impl_CredOk.j0 k true a0_0 a0_1 a0_2 a0_3 a0_4 a0_5 a0_6 a0_7 a0_8 a0_9))) else (impl_CredOk.j0 k true a0_0 a0_1 a0_2 a0_3 a0_4 a0_5 a0_6 a0_7 a0_8 a0_9))) = some r := h
 clear h
 have HC2 := Aside0.mk H
 clear H
 go_enter Try.func75, Try.ntmps75
 go_upto_region 1 with (first | ((with_reducible refine gate_dst (N := 1) rfl ?_); refine box_event ?hg (N := 1) ?hd (cs := #[.int .i64 a0_0, .int .i64 a0_1, .int .i64 a0_2, .int .i64 a0_3, .int .i64 a0_4, .int .i64 a0_5, .int .i64 a0_6, .int .i64 a0_7, .int .i64 a0_8, .int .i64 a0_9]) (t := 46) ?hr ?_; (case hd => rfl); (case hg => rfl); (case hr => first | (go_simp; done) | (go_simp; rfl)); intro gb105 hg w3 hbox hb; have BK105 := Aside0.mk (hbox); have GW105 := gs_ hg; have GE105 := gs_ hg; replace HB := hbs_ hb; clear hb hbox hg))
 (try simp only [Act.put, List.setIfInBounds_toArray, List.set_cons_zero, List.set_cons_succ])
 go_cut [19] (fun v19 wc => ∃ (kq : Nat) (x19_1 : Bool), v19 = .bool x19_1 ∧ Aside0 (impl_CredOk.j0 kq x19_1 a0_0 a0_1 a0_2 a0_3 a0_4 a0_5 a0_6 a0_7 a0_8 a0_9 = some r) ∧ Aside0 (kq ≤ k) ∧ Aside0 (wc.heap[gb105]? = some (.cells #[.int .i64 a0_0, .int .i64 a0_1, .int .i64 a0_2, .int .i64 a0_3, .int .i64 a0_4, .int .i64 a0_5, .int .i64 a0_6, .int .i64 a0_7, .int .i64 a0_8, .int .i64 a0_9] 46 (0, 0))) ∧ Aside0 (Below w.heap.size w wc))
 case first =>
  have H := HC2.out
  clear HC2
  obtain ⟨t106, A4, H⟩ := bindE_ H
  by_cases c5 : t106 = true
  ·subst c5
   replace H := ite_t_ H
   obtain ⟨t107, A6, H⟩ := bindE_ H
   by_cases c7 : t107 = true
   ·subst c7
    replace H := ite_t_ H
    obtain ⟨t108, A8, H⟩ := bindE_ H
    have H' := Aside0.mk H
    clear H
    have hcz9 := blk_cell BK105.out
    have hfz9 := blk_frozen BK105.out
    go_wp2_with (first | ((with_reducible refine gate_callee (f := 103) rfl ?_); refine goesC_ (some 6) Try.func103 #[.agg #[.int .i64 a0_1, .int .i64 a0_2]] ?_; (with_reducible refine (impl_RoleOk.calls a0_1 a0_2 true _ A4.out).mono ?_); rintro e w10 ⟨rfl, hb⟩; refine ⟨_, rfl, ?_⟩; replace BK105 := bkb_ BK105 hb; replace HB := hbs_ hb; clear hb; have hcz11 := blk_cell BK105.out; have hfz11 := blk_frozen BK105.out) | (go_at_call 83; (with_reducible refine (impl_in.calls a0_8 1 9999 true _ A6.out).mono ?_); rintro e w' ⟨rfl, ⟨nd, rfl⟩⟩) | (go_at_call 83; (with_reducible refine (impl_in.calls a0_9 0 99 t108 _ A8.out).mono ?_); rintro e w' ⟨rfl, ⟨nd, rfl⟩⟩))
    go_meet
    case rel => exact ⟨_, (!t108), (by first | rfl | (simp; done) | (simp [*]; done)), H', ⟨by first | omega | exact Nat.le_refl _⟩, ⟨bk_ BK105⟩, ⟨bl_⟩⟩
   ·replace c7 := Bool.eq_false_iff.mpr c7
    subst c7
    replace H := ite_f_ H
    have H' := Aside0.mk H
    clear H
    have hcz12 := blk_cell BK105.out
    have hfz12 := blk_frozen BK105.out
    go_wp2_with (first | ((with_reducible refine gate_callee (f := 103) rfl ?_); refine goesC_ (some 6) Try.func103 #[.agg #[.int .i64 a0_1, .int .i64 a0_2]] ?_; (with_reducible refine (impl_RoleOk.calls a0_1 a0_2 true _ A4.out).mono ?_); rintro e w13 ⟨rfl, hb⟩; refine ⟨_, rfl, ?_⟩; replace BK105 := bkb_ BK105 hb; replace HB := hbs_ hb; clear hb; have hcz14 := blk_cell BK105.out; have hfz14 := blk_frozen BK105.out) | (go_at_call 83; (with_reducible refine (impl_in.calls a0_8 1 9999 false _ A6.out).mono ?_); rintro e w' ⟨rfl, ⟨nd, rfl⟩⟩))
    go_meet
    case rel => exact ⟨_, (true), (by first | rfl | (simp; done) | (simp [*]; done)), H', ⟨by first | omega | exact Nat.le_refl _⟩, ⟨bk_ BK105⟩, ⟨bl_⟩⟩
  ·replace c5 := Bool.eq_false_iff.mpr c5
   subst c5
   replace H := ite_f_ H
   have H' := Aside0.mk H
   clear H
   have hcz15 := blk_cell BK105.out
   have hfz15 := blk_frozen BK105.out
   go_wp2_with (first | ((with_reducible refine gate_callee (f := 103) rfl ?_); refine goesC_ (some 6) Try.func103 #[.agg #[.int .i64 a0_1, .int .i64 a0_2]] ?_; (with_reducible refine (impl_RoleOk.calls a0_1 a0_2 false _ A4.out).mono ?_); rintro e w16 ⟨rfl, hb⟩; refine ⟨_, rfl, ?_⟩; replace BK105 := bkb_ BK105 hb; replace HB := hbs_ hb; clear hb))
   go_meet
   case rel => exact ⟨_, (true), (by first | rfl | (simp; done) | (simp [*]; done)), H', ⟨by first | omega | exact Nat.le_refl _⟩, ⟨bk_ BK105⟩, ⟨bl_⟩⟩
 case rest =>
  clear HC2
  try clear c1
  try clear p2
  try clear c5
  try clear c7
  try clear c10
  try clear hcz11
  try clear hcz12
  try clear hcz14
  try clear hcz15
  try clear hcz9
  try clear hfz11
  try clear hfz12
  try clear hfz14
  try clear hfz15
  try clear hfz9
  obtain ⟨kq, x19_1, rfl, HA, HJ1, BK105, HB⟩ := hcut
  cases kq with
  | zero => exact absurd HA.out (by simp [impl_CredOk.j0])
  | succ kj1 =>
   have H := HA.out
   clear HA
   simp only [impl_CredOk.j0] at H
   by_cases c17 : x19_1 = true
   ·subst c17
    replace H := ite_t_ H
    obtain rfl := Option.some.inj H
    go_wp2
    go_ret
    exact ⟨eq_, bl_⟩
   ·replace c17 := Bool.eq_false_iff.mpr c17
    subst c17
    replace H := ite_f_ H
    by_cases c18 : a0_0 = 1
    ·rw [if_pos c18] at H
     have c18b0 : (a0_0 == 1) = true := beq_iff_eq.mpr c18
     have c18b1 : (a0_0 != 1) = false := bne_eq_false_iff_eq.mpr c18
     clear c18
     obtain ⟨t110, A19, H⟩ := bindE_ H
     by_cases c20 : t110 = true
     ·subst c20
      replace H := ite_t_ H
      by_cases c21 : (a0_4 == 0 && (a0_5 == 0)) = true
      ·rw [if_pos c21] at H
       have c21b0 : (a0_4 == 0 && (a0_5 == 0)) = true := c21
       (try (have c21b1 : decide (a0_4 = 0 && (a0_5 == 0)) = true := by simpa using c21))
       (try (have c21b2 : (a0_4 == 0 && (a0_5 == 0)) = true := by simpa using c21))
       clear c21
       obtain rfl := Option.some.inj H
       go_wp2_with (first | ((with_reducible refine gate_dst (N := 3) rfl ?_); refine box_event ?hg (N := 3) ?hd (cs := #[.int .i64 0, .int .i64 0]) (t := 27) ?hr ?_; (case hd => rfl); (case hg => rfl); (case hr => first | (go_simp; done) | (go_simp; rfl)); intro gb109 hg w22 hbox hb; have BK109 := Aside0.mk (hbox); have GW109 := gs_ hg; have GE109 := gs_ hg; replace HB := hbs_ hb; have NB105_109 := Aside0.mk ((by rw [hg]; exact Nat.ne_of_lt (blk_lt (g := gb105) (o := .cells #[.int .i64 a0_0, .int .i64 a0_1, .int .i64 a0_2, .int .i64 a0_3, .int .i64 a0_4, .int .i64 a0_5, .int .i64 a0_6, .int .i64 a0_7, .int .i64 a0_8, .int .i64 a0_9] 46 (0, 0)) (bk_ BK105)) : gb105 ≠ gb109)); have NB109_105 := Aside0.mk ((by rw [hg]; exact Nat.ne_of_gt (blk_lt (g := gb105) (o := .cells #[.int .i64 a0_0, .int .i64 a0_1, .int .i64 a0_2, .int .i64 a0_3, .int .i64 a0_4, .int .i64 a0_5, .int .i64 a0_6, .int .i64 a0_7, .int .i64 a0_8, .int .i64 a0_9] 46 (0, 0)) (bk_ BK105)) : gb109 ≠ gb105)); replace BK105 := bkb_ BK105 hb; clear hb hbox hg; have hnb23 := NB109_105.out; have hnc23 := NB105_109.out; have hcz24 := blk_cell BK109.out; have hfz24 := blk_frozen BK109.out; have hcz25 := blk_cell BK105.out; have hfz25 := blk_frozen BK105.out) | ((with_reducible refine gate_callee (f := 121) rfl ?_); refine goesC_ (some 27) Try.func121 #[.int .i64 a0_3] ?_; (with_reducible refine (impl_isPerson.calls a0_3 true _ A19.out).mono ?_); rintro e w' ⟨rfl, ⟨nd, rfl⟩⟩; refine ⟨_, rfl, ?_⟩))
       go_ret
       exact ⟨eq_, bl_⟩
      ·rw [if_neg c21] at H
       have c21b0 : (a0_4 == 0 && (a0_5 == 0)) = false := by simpa using c21
       (try (have c21b1 : decide (a0_4 = 0 && (a0_5 == 0)) = false := by simpa using c21))
       (try (have c21b2 : (a0_4 == 0 && (a0_5 == 0)) = false := by simpa using c21))
       (try (have c21b3 : ¬ (a0_4 = 0 && (a0_5 == 0)) := by simpa using c21))
       clear c21
       obtain rfl := Option.some.inj H
       go_wp2_with (first | ((with_reducible refine gate_dst (N := 3) rfl ?_); refine box_event ?hg (N := 3) ?hd (cs := #[.int .i64 0, .int .i64 0]) (t := 27) ?hr ?_; (case hd => rfl); (case hg => rfl); (case hr => first | (go_simp; done) | (go_simp; rfl)); intro gb109 hg w26 hbox hb; have BK109 := Aside0.mk (hbox); have GW109 := gs_ hg; have GE109 := gs_ hg; replace HB := hbs_ hb; have NB105_109 := Aside0.mk ((by rw [hg]; exact Nat.ne_of_lt (blk_lt (g := gb105) (o := .cells #[.int .i64 a0_0, .int .i64 a0_1, .int .i64 a0_2, .int .i64 a0_3, .int .i64 a0_4, .int .i64 a0_5, .int .i64 a0_6, .int .i64 a0_7, .int .i64 a0_8, .int .i64 a0_9] 46 (0, 0)) (bk_ BK105)) : gb105 ≠ gb109)); have NB109_105 := Aside0.mk ((by rw [hg]; exact Nat.ne_of_gt (blk_lt (g := gb105) (o := .cells #[.int .i64 a0_0, .int .i64 a0_1, .int .i64 a0_2, .int .i64 a0_3, .int .i64 a0_4, .int .i64 a0_5, .int .i64 a0_6, .int .i64 a0_7, .int .i64 a0_8, .int .i64 a0_9] 46 (0, 0)) (bk_ BK105)) : gb109 ≠ gb105)); replace BK105 := bkb_ BK105 hb; clear hb hbox hg; have hnb27 := NB109_105.out; have hnc27 := NB105_109.out; have hcz28 := blk_cell BK109.out; have hfz28 := blk_frozen BK109.out; have hcz29 := blk_cell BK105.out; have hfz29 := blk_frozen BK105.out) | ((with_reducible refine gate_callee (f := 121) rfl ?_); refine goesC_ (some 27) Try.func121 #[.int .i64 a0_3] ?_; (with_reducible refine (impl_isPerson.calls a0_3 true _ A19.out).mono ?_); rintro e w' ⟨rfl, ⟨nd, rfl⟩⟩; refine ⟨_, rfl, ?_⟩))
       go_ret
       exact ⟨eq_, bl_⟩
     ·replace c20 := Bool.eq_false_iff.mpr c20
      subst c20
      replace H := ite_f_ H
      obtain rfl := Option.some.inj H
      go_wp2_with (first | ((with_reducible refine gate_dst (N := 3) rfl ?_); refine box_event ?hg (N := 3) ?hd (cs := #[.int .i64 0, .int .i64 0]) (t := 27) ?hr ?_; (case hd => rfl); (case hg => rfl); (case hr => first | (go_simp; done) | (go_simp; rfl)); intro gb109 hg w30 hbox hb; have BK109 := Aside0.mk (hbox); have GW109 := gs_ hg; have GE109 := gs_ hg; replace HB := hbs_ hb; have NB105_109 := Aside0.mk ((by rw [hg]; exact Nat.ne_of_lt (blk_lt (g := gb105) (o := .cells #[.int .i64 a0_0, .int .i64 a0_1, .int .i64 a0_2, .int .i64 a0_3, .int .i64 a0_4, .int .i64 a0_5, .int .i64 a0_6, .int .i64 a0_7, .int .i64 a0_8, .int .i64 a0_9] 46 (0, 0)) (bk_ BK105)) : gb105 ≠ gb109)); have NB109_105 := Aside0.mk ((by rw [hg]; exact Nat.ne_of_gt (blk_lt (g := gb105) (o := .cells #[.int .i64 a0_0, .int .i64 a0_1, .int .i64 a0_2, .int .i64 a0_3, .int .i64 a0_4, .int .i64 a0_5, .int .i64 a0_6, .int .i64 a0_7, .int .i64 a0_8, .int .i64 a0_9] 46 (0, 0)) (bk_ BK105)) : gb109 ≠ gb105)); replace BK105 := bkb_ BK105 hb; clear hb hbox hg; have hnb31 := NB109_105.out; have hnc31 := NB105_109.out; have hcz32 := blk_cell BK109.out; have hfz32 := blk_frozen BK109.out; have hcz33 := blk_cell BK105.out; have hfz33 := blk_frozen BK105.out) | ((with_reducible refine gate_callee (f := 121) rfl ?_); refine goesC_ (some 27) Try.func121 #[.int .i64 a0_3] ?_; (with_reducible refine (impl_isPerson.calls a0_3 false _ A19.out).mono ?_); rintro e w' ⟨rfl, ⟨nd, rfl⟩⟩; refine ⟨_, rfl, ?_⟩))
      go_ret
      exact ⟨eq_, bl_⟩
    ·rw [if_neg c18] at H
     have c18b0 : (a0_0 == 1) = false := beq_eq_false_iff_ne.mpr c18
     have c18b1 : (a0_0 != 1) = true := bne_iff_ne.mpr c18
     by_cases c34 : a0_0 = 2
     ·rw [if_pos c34] at H
      have c34b0 : (a0_0 == 2) = true := beq_iff_eq.mpr c34
      have c34b1 : (a0_0 != 2) = false := bne_eq_false_iff_eq.mpr c34
      clear c34
      by_cases c35 : a0_3 = 0
      ·rw [if_pos c35] at H
       have c35b0 : (a0_3 == 0) = true := beq_iff_eq.mpr c35
       have c35b1 : (a0_3 != 0) = false := bne_eq_false_iff_eq.mpr c35
       clear c35
       obtain ⟨t111, A36, H⟩ := bindE_ H
       by_cases c37 : t111 = true
       ·subst c37
        replace H := ite_t_ H
        obtain rfl := Option.some.inj H
        go_wp2_with (first | ((with_reducible refine gate_dst (N := 3) rfl ?_); refine box_event ?hg (N := 3) ?hd (cs := #[.int .i64 0, .int .i64 0]) (t := 27) ?hr ?_; (case hd => rfl); (case hg => rfl); (case hr => first | (go_simp; done) | (go_simp; rfl)); intro gb109 hg w38 hbox hb; have BK109 := Aside0.mk (hbox); have GW109 := gs_ hg; have GE109 := gs_ hg; replace HB := hbs_ hb; have NB105_109 := Aside0.mk ((by rw [hg]; exact Nat.ne_of_lt (blk_lt (g := gb105) (o := .cells #[.int .i64 a0_0, .int .i64 a0_1, .int .i64 a0_2, .int .i64 a0_3, .int .i64 a0_4, .int .i64 a0_5, .int .i64 a0_6, .int .i64 a0_7, .int .i64 a0_8, .int .i64 a0_9] 46 (0, 0)) (bk_ BK105)) : gb105 ≠ gb109)); have NB109_105 := Aside0.mk ((by rw [hg]; exact Nat.ne_of_gt (blk_lt (g := gb105) (o := .cells #[.int .i64 a0_0, .int .i64 a0_1, .int .i64 a0_2, .int .i64 a0_3, .int .i64 a0_4, .int .i64 a0_5, .int .i64 a0_6, .int .i64 a0_7, .int .i64 a0_8, .int .i64 a0_9] 46 (0, 0)) (bk_ BK105)) : gb109 ≠ gb105)); replace BK105 := bkb_ BK105 hb; clear hb hbox hg; have hnb39 := NB109_105.out; have hnc39 := NB105_109.out; have hcz40 := blk_cell BK109.out; have hfz40 := blk_frozen BK109.out; have hcz41 := blk_cell BK105.out; have hfz41 := blk_frozen BK105.out) | (go_at_call 103; (with_reducible refine (impl_RoleOk.calls a0_4 a0_5 true _ A36.out).mono ?_); rintro e w42 ⟨rfl, hb⟩; replace BK105 := Aside0.mk (blk_below (g := gb105) (o := .cells #[.int .i64 a0_0, .int .i64 a0_1, .int .i64 a0_2, .int .i64 a0_3, .int .i64 a0_4, .int .i64 a0_5, .int .i64 a0_6, .int .i64 a0_7, .int .i64 a0_8, .int .i64 a0_9] 46 (0, 0)) (bk_ BK105) hb); replace BK109 := Aside0.mk (blk_below (g := gb109) (o := .cells #[.int .i64 0, .int .i64 0] 27 (0, 0)) (bk_ BK109) hb); replace HB := hbs_ hb; clear hb; have hcz43 := blk_cell BK105.out; have hfz43 := blk_frozen BK105.out; have hcz44 := blk_cell BK109.out; have hfz44 := blk_frozen BK109.out))
        go_ret
        exact ⟨eq_, bl_⟩
       ·replace c37 := Bool.eq_false_iff.mpr c37
        subst c37
        replace H := ite_f_ H
        obtain rfl := Option.some.inj H
        go_wp2_with (first | ((with_reducible refine gate_dst (N := 3) rfl ?_); refine box_event ?hg (N := 3) ?hd (cs := #[.int .i64 0, .int .i64 0]) (t := 27) ?hr ?_; (case hd => rfl); (case hg => rfl); (case hr => first | (go_simp; done) | (go_simp; rfl)); intro gb109 hg w45 hbox hb; have BK109 := Aside0.mk (hbox); have GW109 := gs_ hg; have GE109 := gs_ hg; replace HB := hbs_ hb; have NB105_109 := Aside0.mk ((by rw [hg]; exact Nat.ne_of_lt (blk_lt (g := gb105) (o := .cells #[.int .i64 a0_0, .int .i64 a0_1, .int .i64 a0_2, .int .i64 a0_3, .int .i64 a0_4, .int .i64 a0_5, .int .i64 a0_6, .int .i64 a0_7, .int .i64 a0_8, .int .i64 a0_9] 46 (0, 0)) (bk_ BK105)) : gb105 ≠ gb109)); have NB109_105 := Aside0.mk ((by rw [hg]; exact Nat.ne_of_gt (blk_lt (g := gb105) (o := .cells #[.int .i64 a0_0, .int .i64 a0_1, .int .i64 a0_2, .int .i64 a0_3, .int .i64 a0_4, .int .i64 a0_5, .int .i64 a0_6, .int .i64 a0_7, .int .i64 a0_8, .int .i64 a0_9] 46 (0, 0)) (bk_ BK105)) : gb109 ≠ gb105)); replace BK105 := bkb_ BK105 hb; clear hb hbox hg; have hnb46 := NB109_105.out; have hnc46 := NB105_109.out; have hcz47 := blk_cell BK109.out; have hfz47 := blk_frozen BK109.out; have hcz48 := blk_cell BK105.out; have hfz48 := blk_frozen BK105.out) | (go_at_call 103; (with_reducible refine (impl_RoleOk.calls a0_4 a0_5 false _ A36.out).mono ?_); rintro e w49 ⟨rfl, hb⟩; replace BK105 := Aside0.mk (blk_below (g := gb105) (o := .cells #[.int .i64 a0_0, .int .i64 a0_1, .int .i64 a0_2, .int .i64 a0_3, .int .i64 a0_4, .int .i64 a0_5, .int .i64 a0_6, .int .i64 a0_7, .int .i64 a0_8, .int .i64 a0_9] 46 (0, 0)) (bk_ BK105) hb); replace BK109 := Aside0.mk (blk_below (g := gb109) (o := .cells #[.int .i64 0, .int .i64 0] 27 (0, 0)) (bk_ BK109) hb); replace HB := hbs_ hb; clear hb))
        go_ret
        exact ⟨eq_, bl_⟩
      ·rw [if_neg c35] at H
       have c35b0 : (a0_3 == 0) = false := beq_eq_false_iff_ne.mpr c35
       have c35b1 : (a0_3 != 0) = true := bne_iff_ne.mpr c35
       obtain rfl := Option.some.inj H
       go_wp2_with (first | ((with_reducible refine gate_dst (N := 3) rfl ?_); refine box_event ?hg (N := 3) ?hd (cs := #[.int .i64 0, .int .i64 0]) (t := 27) ?hr ?_; (case hd => rfl); (case hg => rfl); (case hr => first | (go_simp; done) | (go_simp; rfl)); intro gb109 hg w50 hbox hb; have BK109 := Aside0.mk (hbox); have GW109 := gs_ hg; have GE109 := gs_ hg; replace HB := hbs_ hb; have NB105_109 := Aside0.mk ((by rw [hg]; exact Nat.ne_of_lt (blk_lt (g := gb105) (o := .cells #[.int .i64 a0_0, .int .i64 a0_1, .int .i64 a0_2, .int .i64 a0_3, .int .i64 a0_4, .int .i64 a0_5, .int .i64 a0_6, .int .i64 a0_7, .int .i64 a0_8, .int .i64 a0_9] 46 (0, 0)) (bk_ BK105)) : gb105 ≠ gb109)); have NB109_105 := Aside0.mk ((by rw [hg]; exact Nat.ne_of_gt (blk_lt (g := gb105) (o := .cells #[.int .i64 a0_0, .int .i64 a0_1, .int .i64 a0_2, .int .i64 a0_3, .int .i64 a0_4, .int .i64 a0_5, .int .i64 a0_6, .int .i64 a0_7, .int .i64 a0_8, .int .i64 a0_9] 46 (0, 0)) (bk_ BK105)) : gb109 ≠ gb105)); replace BK105 := bkb_ BK105 hb; clear hb hbox hg; have hnb51 := NB109_105.out; have hnc51 := NB105_109.out; have hcz52 := blk_cell BK109.out; have hfz52 := blk_frozen BK109.out; have hcz53 := blk_cell BK105.out; have hfz53 := blk_frozen BK105.out))
       go_ret
       exact ⟨eq_, bl_⟩
     ·rw [if_neg c34] at H
      have c34b0 : (a0_0 == 2) = false := beq_eq_false_iff_ne.mpr c34
      have c34b1 : (a0_0 != 2) = true := bne_iff_ne.mpr c34
      by_cases c54 : a0_0 = 3
      ·rw [if_pos c54] at H
       have c54b0 : (a0_0 == 3) = true := beq_iff_eq.mpr c54
       have c54b1 : (a0_0 != 3) = false := bne_eq_false_iff_eq.mpr c54
       clear c54
       by_cases c55 : a0_3 = 0
       ·rw [if_pos c55] at H
        have c55b0 : (a0_3 == 0) = true := beq_iff_eq.mpr c55
        have c55b1 : (a0_3 != 0) = false := bne_eq_false_iff_eq.mpr c55
        clear c55
        obtain ⟨t112, A56, H⟩ := bindE_ H
        by_cases c57 : t112 = true
        ·subst c57
         replace H := ite_t_ H
         obtain ⟨t113, A58, H⟩ := bindE_ H
         by_cases c59 : t113 = true
         ·subst c59
          replace H := ite_t_ H
          obtain rfl := Option.some.inj H
          go_wp2_with (first | ((with_reducible refine gate_dst (N := 3) rfl ?_); refine box_event ?hg (N := 3) ?hd (cs := #[.int .i64 0, .int .i64 0]) (t := 27) ?hr ?_; (case hd => rfl); (case hg => rfl); (case hr => first | (go_simp; done) | (go_simp; rfl)); intro gb109 hg w60 hbox hb; have BK109 := Aside0.mk (hbox); have GW109 := gs_ hg; have GE109 := gs_ hg; replace HB := hbs_ hb; have NB105_109 := Aside0.mk ((by rw [hg]; exact Nat.ne_of_lt (blk_lt (g := gb105) (o := .cells #[.int .i64 a0_0, .int .i64 a0_1, .int .i64 a0_2, .int .i64 a0_3, .int .i64 a0_4, .int .i64 a0_5, .int .i64 a0_6, .int .i64 a0_7, .int .i64 a0_8, .int .i64 a0_9] 46 (0, 0)) (bk_ BK105)) : gb105 ≠ gb109)); have NB109_105 := Aside0.mk ((by rw [hg]; exact Nat.ne_of_gt (blk_lt (g := gb105) (o := .cells #[.int .i64 a0_0, .int .i64 a0_1, .int .i64 a0_2, .int .i64 a0_3, .int .i64 a0_4, .int .i64 a0_5, .int .i64 a0_6, .int .i64 a0_7, .int .i64 a0_8, .int .i64 a0_9] 46 (0, 0)) (bk_ BK105)) : gb109 ≠ gb105)); replace BK105 := bkb_ BK105 hb; clear hb hbox hg; have hnb61 := NB109_105.out; have hnc61 := NB105_109.out; have hcz62 := blk_cell BK109.out; have hfz62 := blk_frozen BK109.out; have hcz63 := blk_cell BK105.out; have hfz63 := blk_frozen BK105.out) | (go_at_call 103; (with_reducible refine (impl_RoleOk.calls a0_4 a0_5 true _ A56.out).mono ?_); rintro e w64 ⟨rfl, hb⟩; replace BK105 := Aside0.mk (blk_below (g := gb105) (o := .cells #[.int .i64 a0_0, .int .i64 a0_1, .int .i64 a0_2, .int .i64 a0_3, .int .i64 a0_4, .int .i64 a0_5, .int .i64 a0_6, .int .i64 a0_7, .int .i64 a0_8, .int .i64 a0_9] 46 (0, 0)) (bk_ BK105) hb); replace BK109 := Aside0.mk (blk_below (g := gb109) (o := .cells #[.int .i64 0, .int .i64 0] 27 (0, 0)) (bk_ BK109) hb); replace HB := hbs_ hb; clear hb; have hcz65 := blk_cell BK105.out; have hfz65 := blk_frozen BK105.out) | (go_at_call 103; (with_reducible refine (impl_RoleOk.calls a0_6 a0_7 true _ A58.out).mono ?_); rintro e w66 ⟨rfl, hb⟩; replace BK105 := bkb_ BK105 hb; replace BK109 := bkb_ BK109 hb; replace HB := hbs_ hb; clear hb; have hcz67 := blk_cell BK105.out; have hfz67 := blk_frozen BK105.out))
          go_ret
          exact ⟨eq_, bl_⟩
         ·replace c59 := Bool.eq_false_iff.mpr c59
          subst c59
          replace H := ite_f_ H
          obtain rfl := Option.some.inj H
          go_wp2_with (first | ((with_reducible refine gate_dst (N := 3) rfl ?_); refine box_event ?hg (N := 3) ?hd (cs := #[.int .i64 0, .int .i64 0]) (t := 27) ?hr ?_; (case hd => rfl); (case hg => rfl); (case hr => first | (go_simp; done) | (go_simp; rfl)); intro gb109 hg w68 hbox hb; have BK109 := Aside0.mk (hbox); have GW109 := gs_ hg; have GE109 := gs_ hg; replace HB := hbs_ hb; have NB105_109 := Aside0.mk ((by rw [hg]; exact Nat.ne_of_lt (blk_lt (g := gb105) (o := .cells #[.int .i64 a0_0, .int .i64 a0_1, .int .i64 a0_2, .int .i64 a0_3, .int .i64 a0_4, .int .i64 a0_5, .int .i64 a0_6, .int .i64 a0_7, .int .i64 a0_8, .int .i64 a0_9] 46 (0, 0)) (bk_ BK105)) : gb105 ≠ gb109)); have NB109_105 := Aside0.mk ((by rw [hg]; exact Nat.ne_of_gt (blk_lt (g := gb105) (o := .cells #[.int .i64 a0_0, .int .i64 a0_1, .int .i64 a0_2, .int .i64 a0_3, .int .i64 a0_4, .int .i64 a0_5, .int .i64 a0_6, .int .i64 a0_7, .int .i64 a0_8, .int .i64 a0_9] 46 (0, 0)) (bk_ BK105)) : gb109 ≠ gb105)); replace BK105 := bkb_ BK105 hb; clear hb hbox hg; have hnb69 := NB109_105.out; have hnc69 := NB105_109.out; have hcz70 := blk_cell BK109.out; have hfz70 := blk_frozen BK109.out; have hcz71 := blk_cell BK105.out; have hfz71 := blk_frozen BK105.out) | (go_at_call 103; (with_reducible refine (impl_RoleOk.calls a0_4 a0_5 true _ A56.out).mono ?_); rintro e w72 ⟨rfl, hb⟩; replace BK105 := Aside0.mk (blk_below (g := gb105) (o := .cells #[.int .i64 a0_0, .int .i64 a0_1, .int .i64 a0_2, .int .i64 a0_3, .int .i64 a0_4, .int .i64 a0_5, .int .i64 a0_6, .int .i64 a0_7, .int .i64 a0_8, .int .i64 a0_9] 46 (0, 0)) (bk_ BK105) hb); replace BK109 := Aside0.mk (blk_below (g := gb109) (o := .cells #[.int .i64 0, .int .i64 0] 27 (0, 0)) (bk_ BK109) hb); replace HB := hbs_ hb; clear hb; have hcz73 := blk_cell BK105.out; have hfz73 := blk_frozen BK105.out) | (go_at_call 103; (with_reducible refine (impl_RoleOk.calls a0_6 a0_7 false _ A58.out).mono ?_); rintro e w74 ⟨rfl, hb⟩; replace BK105 := bkb_ BK105 hb; replace BK109 := bkb_ BK109 hb; replace HB := hbs_ hb; clear hb))
          go_ret
          exact ⟨eq_, bl_⟩
        ·replace c57 := Bool.eq_false_iff.mpr c57
         subst c57
         replace H := ite_f_ H
         obtain rfl := Option.some.inj H
         go_wp2_with (first | ((with_reducible refine gate_dst (N := 3) rfl ?_); refine box_event ?hg (N := 3) ?hd (cs := #[.int .i64 0, .int .i64 0]) (t := 27) ?hr ?_; (case hd => rfl); (case hg => rfl); (case hr => first | (go_simp; done) | (go_simp; rfl)); intro gb109 hg w75 hbox hb; have BK109 := Aside0.mk (hbox); have GW109 := gs_ hg; have GE109 := gs_ hg; replace HB := hbs_ hb; have NB105_109 := Aside0.mk ((by rw [hg]; exact Nat.ne_of_lt (blk_lt (g := gb105) (o := .cells #[.int .i64 a0_0, .int .i64 a0_1, .int .i64 a0_2, .int .i64 a0_3, .int .i64 a0_4, .int .i64 a0_5, .int .i64 a0_6, .int .i64 a0_7, .int .i64 a0_8, .int .i64 a0_9] 46 (0, 0)) (bk_ BK105)) : gb105 ≠ gb109)); have NB109_105 := Aside0.mk ((by rw [hg]; exact Nat.ne_of_gt (blk_lt (g := gb105) (o := .cells #[.int .i64 a0_0, .int .i64 a0_1, .int .i64 a0_2, .int .i64 a0_3, .int .i64 a0_4, .int .i64 a0_5, .int .i64 a0_6, .int .i64 a0_7, .int .i64 a0_8, .int .i64 a0_9] 46 (0, 0)) (bk_ BK105)) : gb109 ≠ gb105)); replace BK105 := bkb_ BK105 hb; clear hb hbox hg; have hnb76 := NB109_105.out; have hnc76 := NB105_109.out; have hcz77 := blk_cell BK109.out; have hfz77 := blk_frozen BK109.out; have hcz78 := blk_cell BK105.out; have hfz78 := blk_frozen BK105.out) | (go_at_call 103; (with_reducible refine (impl_RoleOk.calls a0_4 a0_5 false _ A56.out).mono ?_); rintro e w79 ⟨rfl, hb⟩; replace BK105 := Aside0.mk (blk_below (g := gb105) (o := .cells #[.int .i64 a0_0, .int .i64 a0_1, .int .i64 a0_2, .int .i64 a0_3, .int .i64 a0_4, .int .i64 a0_5, .int .i64 a0_6, .int .i64 a0_7, .int .i64 a0_8, .int .i64 a0_9] 46 (0, 0)) (bk_ BK105) hb); replace BK109 := Aside0.mk (blk_below (g := gb109) (o := .cells #[.int .i64 0, .int .i64 0] 27 (0, 0)) (bk_ BK109) hb); replace HB := hbs_ hb; clear hb))
         go_ret
         exact ⟨eq_, bl_⟩
       ·rw [if_neg c55] at H
        have c55b0 : (a0_3 == 0) = false := beq_eq_false_iff_ne.mpr c55
        have c55b1 : (a0_3 != 0) = true := bne_iff_ne.mpr c55
        obtain rfl := Option.some.inj H
        go_wp2_with (first | ((with_reducible refine gate_dst (N := 3) rfl ?_); refine box_event ?hg (N := 3) ?hd (cs := #[.int .i64 0, .int .i64 0]) (t := 27) ?hr ?_; (case hd => rfl); (case hg => rfl); (case hr => first | (go_simp; done) | (go_simp; rfl)); intro gb109 hg w80 hbox hb; have BK109 := Aside0.mk (hbox); have GW109 := gs_ hg; have GE109 := gs_ hg; replace HB := hbs_ hb; have NB105_109 := Aside0.mk ((by rw [hg]; exact Nat.ne_of_lt (blk_lt (g := gb105) (o := .cells #[.int .i64 a0_0, .int .i64 a0_1, .int .i64 a0_2, .int .i64 a0_3, .int .i64 a0_4, .int .i64 a0_5, .int .i64 a0_6, .int .i64 a0_7, .int .i64 a0_8, .int .i64 a0_9] 46 (0, 0)) (bk_ BK105)) : gb105 ≠ gb109)); have NB109_105 := Aside0.mk ((by rw [hg]; exact Nat.ne_of_gt (blk_lt (g := gb105) (o := .cells #[.int .i64 a0_0, .int .i64 a0_1, .int .i64 a0_2, .int .i64 a0_3, .int .i64 a0_4, .int .i64 a0_5, .int .i64 a0_6, .int .i64 a0_7, .int .i64 a0_8, .int .i64 a0_9] 46 (0, 0)) (bk_ BK105)) : gb109 ≠ gb105)); replace BK105 := bkb_ BK105 hb; clear hb hbox hg; have hnb81 := NB109_105.out; have hnc81 := NB105_109.out; have hcz82 := blk_cell BK109.out; have hfz82 := blk_frozen BK109.out; have hcz83 := blk_cell BK105.out; have hfz83 := blk_frozen BK105.out))
        go_ret
        exact ⟨eq_, bl_⟩
      ·rw [if_neg c54] at H
       have c54b0 : (a0_0 == 3) = false := beq_eq_false_iff_ne.mpr c54
       have c54b1 : (a0_0 != 3) = true := bne_iff_ne.mpr c54
       by_cases c84 : a0_0 = 4
       ·rw [if_pos c84] at H
        have c84b0 : (a0_0 == 4) = true := beq_iff_eq.mpr c84
        have c84b1 : (a0_0 != 4) = false := bne_eq_false_iff_eq.mpr c84
        clear c84
        by_cases c85 : a0_3 = 0
        ·rw [if_pos c85] at H
         have c85b0 : (a0_3 == 0) = true := beq_iff_eq.mpr c85
         have c85b1 : (a0_3 != 0) = false := bne_eq_false_iff_eq.mpr c85
         clear c85
         obtain ⟨t114, A86, H⟩ := bindE_ H
         by_cases c87 : t114 = true
         ·subst c87
          replace H := ite_t_ H
          obtain ⟨t115, A88, H⟩ := bindE_ H
          obtain rfl := Option.some.inj H
          go_wp2_with (first | ((with_reducible refine gate_dst (N := 3) rfl ?_); refine box_event ?hg (N := 3) ?hd (cs := #[.int .i64 0, .int .i64 0]) (t := 27) ?hr ?_; (case hd => rfl); (case hg => rfl); (case hr => first | (go_simp; done) | (go_simp; rfl)); intro gb109 hg w89 hbox hb; have BK109 := Aside0.mk (hbox); have GW109 := gs_ hg; have GE109 := gs_ hg; replace HB := hbs_ hb; have NB105_109 := Aside0.mk ((by rw [hg]; exact Nat.ne_of_lt (blk_lt (g := gb105) (o := .cells #[.int .i64 a0_0, .int .i64 a0_1, .int .i64 a0_2, .int .i64 a0_3, .int .i64 a0_4, .int .i64 a0_5, .int .i64 a0_6, .int .i64 a0_7, .int .i64 a0_8, .int .i64 a0_9] 46 (0, 0)) (bk_ BK105)) : gb105 ≠ gb109)); have NB109_105 := Aside0.mk ((by rw [hg]; exact Nat.ne_of_gt (blk_lt (g := gb105) (o := .cells #[.int .i64 a0_0, .int .i64 a0_1, .int .i64 a0_2, .int .i64 a0_3, .int .i64 a0_4, .int .i64 a0_5, .int .i64 a0_6, .int .i64 a0_7, .int .i64 a0_8, .int .i64 a0_9] 46 (0, 0)) (bk_ BK105)) : gb109 ≠ gb105)); replace BK105 := bkb_ BK105 hb; clear hb hbox hg; have hnb90 := NB109_105.out; have hnc90 := NB105_109.out; have hcz91 := blk_cell BK109.out; have hfz91 := blk_frozen BK109.out; have hcz92 := blk_cell BK105.out; have hfz92 := blk_frozen BK105.out) | (go_at_call 103; (with_reducible refine (impl_RoleOk.calls a0_4 a0_5 true _ A86.out).mono ?_); rintro e w93 ⟨rfl, hb⟩; replace BK105 := Aside0.mk (blk_below (g := gb105) (o := .cells #[.int .i64 a0_0, .int .i64 a0_1, .int .i64 a0_2, .int .i64 a0_3, .int .i64 a0_4, .int .i64 a0_5, .int .i64 a0_6, .int .i64 a0_7, .int .i64 a0_8, .int .i64 a0_9] 46 (0, 0)) (bk_ BK105) hb); replace BK109 := Aside0.mk (blk_below (g := gb109) (o := .cells #[.int .i64 0, .int .i64 0] 27 (0, 0)) (bk_ BK109) hb); replace HB := hbs_ hb; clear hb; have hcz94 := blk_cell BK105.out; have hfz94 := blk_frozen BK105.out) | (go_at_call 103; (with_reducible refine (impl_RoleOk.calls a0_6 a0_7 t115 _ A88.out).mono ?_); rintro e w95 ⟨rfl, hb⟩; replace BK105 := bkb_ BK105 hb; replace BK109 := bkb_ BK109 hb; replace HB := hbs_ hb; clear hb))
          go_ret
          exact ⟨eq_, bl_⟩
         ·replace c87 := Bool.eq_false_iff.mpr c87
          subst c87
          replace H := ite_f_ H
          obtain rfl := Option.some.inj H
          go_wp2_with (first | ((with_reducible refine gate_dst (N := 3) rfl ?_); refine box_event ?hg (N := 3) ?hd (cs := #[.int .i64 0, .int .i64 0]) (t := 27) ?hr ?_; (case hd => rfl); (case hg => rfl); (case hr => first | (go_simp; done) | (go_simp; rfl)); intro gb109 hg w96 hbox hb; have BK109 := Aside0.mk (hbox); have GW109 := gs_ hg; have GE109 := gs_ hg; replace HB := hbs_ hb; have NB105_109 := Aside0.mk ((by rw [hg]; exact Nat.ne_of_lt (blk_lt (g := gb105) (o := .cells #[.int .i64 a0_0, .int .i64 a0_1, .int .i64 a0_2, .int .i64 a0_3, .int .i64 a0_4, .int .i64 a0_5, .int .i64 a0_6, .int .i64 a0_7, .int .i64 a0_8, .int .i64 a0_9] 46 (0, 0)) (bk_ BK105)) : gb105 ≠ gb109)); have NB109_105 := Aside0.mk ((by rw [hg]; exact Nat.ne_of_gt (blk_lt (g := gb105) (o := .cells #[.int .i64 a0_0, .int .i64 a0_1, .int .i64 a0_2, .int .i64 a0_3, .int .i64 a0_4, .int .i64 a0_5, .int .i64 a0_6, .int .i64 a0_7, .int .i64 a0_8, .int .i64 a0_9] 46 (0, 0)) (bk_ BK105)) : gb109 ≠ gb105)); replace BK105 := bkb_ BK105 hb; clear hb hbox hg; have hnb97 := NB109_105.out; have hnc97 := NB105_109.out; have hcz98 := blk_cell BK109.out; have hfz98 := blk_frozen BK109.out; have hcz99 := blk_cell BK105.out; have hfz99 := blk_frozen BK105.out) | (go_at_call 103; (with_reducible refine (impl_RoleOk.calls a0_4 a0_5 false _ A86.out).mono ?_); rintro e w100 ⟨rfl, hb⟩; replace BK105 := Aside0.mk (blk_below (g := gb105) (o := .cells #[.int .i64 a0_0, .int .i64 a0_1, .int .i64 a0_2, .int .i64 a0_3, .int .i64 a0_4, .int .i64 a0_5, .int .i64 a0_6, .int .i64 a0_7, .int .i64 a0_8, .int .i64 a0_9] 46 (0, 0)) (bk_ BK105) hb); replace BK109 := Aside0.mk (blk_below (g := gb109) (o := .cells #[.int .i64 0, .int .i64 0] 27 (0, 0)) (bk_ BK109) hb); replace HB := hbs_ hb; clear hb))
          go_ret
          exact ⟨eq_, bl_⟩
        ·rw [if_neg c85] at H
         have c85b0 : (a0_3 == 0) = false := beq_eq_false_iff_ne.mpr c85
         have c85b1 : (a0_3 != 0) = true := bne_iff_ne.mpr c85
         obtain rfl := Option.some.inj H
         go_wp2_with (first | ((with_reducible refine gate_dst (N := 3) rfl ?_); refine box_event ?hg (N := 3) ?hd (cs := #[.int .i64 0, .int .i64 0]) (t := 27) ?hr ?_; (case hd => rfl); (case hg => rfl); (case hr => first | (go_simp; done) | (go_simp; rfl)); intro gb109 hg w101 hbox hb; have BK109 := Aside0.mk (hbox); have GW109 := gs_ hg; have GE109 := gs_ hg; replace HB := hbs_ hb; have NB105_109 := Aside0.mk ((by rw [hg]; exact Nat.ne_of_lt (blk_lt (g := gb105) (o := .cells #[.int .i64 a0_0, .int .i64 a0_1, .int .i64 a0_2, .int .i64 a0_3, .int .i64 a0_4, .int .i64 a0_5, .int .i64 a0_6, .int .i64 a0_7, .int .i64 a0_8, .int .i64 a0_9] 46 (0, 0)) (bk_ BK105)) : gb105 ≠ gb109)); have NB109_105 := Aside0.mk ((by rw [hg]; exact Nat.ne_of_gt (blk_lt (g := gb105) (o := .cells #[.int .i64 a0_0, .int .i64 a0_1, .int .i64 a0_2, .int .i64 a0_3, .int .i64 a0_4, .int .i64 a0_5, .int .i64 a0_6, .int .i64 a0_7, .int .i64 a0_8, .int .i64 a0_9] 46 (0, 0)) (bk_ BK105)) : gb109 ≠ gb105)); replace BK105 := bkb_ BK105 hb; clear hb hbox hg; have hnb102 := NB109_105.out; have hnc102 := NB105_109.out; have hcz103 := blk_cell BK109.out; have hfz103 := blk_frozen BK109.out; have hcz104 := blk_cell BK105.out; have hfz104 := blk_frozen BK105.out))
         go_ret
         exact ⟨eq_, bl_⟩
       ·rw [if_neg c84] at H
        have c84b0 : (a0_0 == 4) = false := beq_eq_false_iff_ne.mpr c84
        have c84b1 : (a0_0 != 4) = true := bne_iff_ne.mpr c84
        obtain rfl := Option.some.inj H
        go_wp2_with (first | ((with_reducible refine gate_dst (N := 3) rfl ?_); refine box_event ?hg (N := 3) ?hd (cs := #[.int .i64 0, .int .i64 0]) (t := 27) ?hr ?_; (case hd => rfl); (case hg => rfl); (case hr => first | (go_simp; done) | (go_simp; rfl)); intro gb109 hg w105 hbox hb; have BK109 := Aside0.mk (hbox); have GW109 := gs_ hg; have GE109 := gs_ hg; replace HB := hbs_ hb; have NB105_109 := Aside0.mk ((by rw [hg]; exact Nat.ne_of_lt (blk_lt (g := gb105) (o := .cells #[.int .i64 a0_0, .int .i64 a0_1, .int .i64 a0_2, .int .i64 a0_3, .int .i64 a0_4, .int .i64 a0_5, .int .i64 a0_6, .int .i64 a0_7, .int .i64 a0_8, .int .i64 a0_9] 46 (0, 0)) (bk_ BK105)) : gb105 ≠ gb109)); have NB109_105 := Aside0.mk ((by rw [hg]; exact Nat.ne_of_gt (blk_lt (g := gb105) (o := .cells #[.int .i64 a0_0, .int .i64 a0_1, .int .i64 a0_2, .int .i64 a0_3, .int .i64 a0_4, .int .i64 a0_5, .int .i64 a0_6, .int .i64 a0_7, .int .i64 a0_8, .int .i64 a0_9] 46 (0, 0)) (bk_ BK105)) : gb109 ≠ gb105)); replace BK105 := bkb_ BK105 hb; clear hb hbox hg; have hnb106 := NB109_105.out; have hnc106 := NB105_109.out; have hcz107 := blk_cell BK109.out; have hfz107 := blk_frozen BK109.out; have hcz108 := blk_cell BK105.out; have hfz108 := blk_frozen BK105.out))
        go_ret
        exact ⟨eq_, bl_⟩
def impl_Fact_134.l0 : Nat → List (S29) → Int → Int → Int → Int → Int → Option (Int)
 | 0, _, _, _, _, _, _ => none
 | k + 1, x0, x7, x8, x117000, x117001, x117002 => if x8 < x7 then (if 0 ≤ x8 then (if x8 < (x0.length : Int) then (if ((x117000 == ((rd_T29 x0 x8).f0.f0) && (x117001 == ((rd_T29 x0 x8).f0.f1))) && (x117002 == ((rd_T29 x0 x8).f1))) = true then (some x8) else (impl_Fact_134.l0 k x0 x7 (wrap64 (x8 + 1)) x117000 x117001 x117002)) else (none)) else (none)) else (some (-1))
def impl_Fact_134.f (k : Nat) (l0 : List (S29)) (a1_0 : Int) (a1_1 : Int) (a1_2 : Int) : Option (Int) := impl_Fact_134.l0 k l0 (l0.length : Int) 0 a1_0 a1_1 a1_2
set_option maxHeartbeats 8000000 in
set_option maxRecDepth 100000 in
theorem impl_Fact_134.calls (k : Nat) (A0 : Option Addr) (c0 : Nat) (l0 : List (S29)) (a1_0 : Int) (a1_1 : Int) (a1_2 : Int) (r : Int) (w : World) (hr0 : Kd.C k29 w A0 l0.length l0) (hc0 : l0.length ≤ c0) (h : impl_Fact_134.f k l0 a1_0 a1_1 a1_2 = some r) :
  Calls Try.prog 134 #[.slice A0 l0.length c0, .agg #[.int .i64 a1_0, .int .i64 a1_1, .int .i64 a1_2]] w fun e w' => e = .returned (.int .i64 r) ∧ Below w.heap.size w w' := by
 have hu29 := Try.underlying29
 have HR0 := Aside0.mk hr0
 have HC0 := Aside0.mk hc0
 clear hr0 hc0
 have HB := Aside0.mk (Below.refl w.heap.size w)
 have H : (impl_Fact_134.l0 k l0 (l0.length : Int) 0 a1_0 a1_1 a1_2) = some r := h
 clear h
 have H' := Aside0.mk H
 clear H
 go_enter Try.func134, Try.ntmps134
 go_wp2_with (first | ((with_reducible refine gate_dst (N := 3) rfl ?_); refine box_event ?hg (N := 3) ?hd (cs := #[.int .i64 a1_0, .int .i64 a1_1, .int .i64 a1_2]) (t := 29) ?hr ?_; (case hd => rfl); (case hg => rfl); (case hr => first | (go_simp; done) | (go_simp; rfl)); intro gb116 hg w3 hbox hb; have BK116 := Aside0.mk (hbox); have GW116 := gs_ hg; have GE116 := gs_ hg; replace HB := hbs_ hb; clear hb hbox hg))
 repeat (go_quiet (first | ((with_reducible refine gate_dst (N := 3) rfl ?_); refine box_event ?hg (N := 3) ?hd (cs := #[.int .i64 a1_0, .int .i64 a1_1, .int .i64 a1_2]) (t := 29) ?hr ?_; (case hd => rfl); (case hg => rfl); (case hr => first | (go_simp; done) | (go_simp; rfl)); intro gb116 hg w3 hbox hb; have BK116 := Aside0.mk (hbox); have GW116 := gs_ hg; have GE116 := gs_ hg; replace HB := hbs_ hb; clear hb hbox hg)); try go_wp2_with (first | ((with_reducible refine gate_dst (N := 3) rfl ?_); refine box_event ?hg (N := 3) ?hd (cs := #[.int .i64 a1_0, .int .i64 a1_1, .int .i64 a1_2]) (t := 29) ?hr ?_; (case hd => rfl); (case hg => rfl); (case hr => first | (go_simp; done) | (go_simp; rfl)); intro gb116 hg w3 hbox hb; have BK116 := Aside0.mk (hbox); have GW116 := gs_ hg; have GE116 := gs_ hg; replace HB := hbs_ hb; clear hb hbox hg)))
 go_loopg [8] k (fun kq v8 w' => ∃ (x8_1 : Int), v8 = .int .i64 x8_1 ∧ Aside0 (impl_Fact_134.l0 kq l0 (l0.length : Int) x8_1 a1_0 a1_1 a1_2 = some r) ∧ Aside0 (kq ≤ k) ∧ Aside0 (w'.heap[gb116]? = some (.cells #[.int .i64 a1_0, .int .i64 a1_1, .int .i64 a1_2] 29 (0, 0))) ∧ Aside0 (Below w.heap.size w w'))
 case atStart => exact ⟨(0), (by first | rfl | (simp; done) | (simp [*]; done)), H', ⟨Nat.le_refl _⟩, ⟨bk_ BK116⟩, ⟨bl_⟩⟩
 case round =>
  clear H'
  try clear c1
  try clear p2
  obtain ⟨x8_1, rfl, HA, HK1, BK116, HB⟩ := hrel
  cases gk with
  | zero => exact absurd HA.out (by simp [impl_Fact_134.l0])
  | succ k1 =>
   have H := HA.out
   clear HA
   simp only [impl_Fact_134.l0] at H
   by_cases c4 : x8_1 < (l0.length : Int)
   ·rw [if_pos c4] at H
    have c4b0 : decide (x8_1 < (l0.length : Int)) = true := decide_eq_true c4
    clear c4
    by_cases c5 : 0 ≤ x8_1
    ·rw [if_pos c5] at H
     have c5b0 : decide (0 ≤ x8_1) = true := decide_eq_true c5
     clear c5
     by_cases c6 : x8_1 < (l0.length : Int)
     ·rw [if_pos c6] at H
      have c6b0 : decide (x8_1 < (l0.length : Int)) = true := decide_eq_true c6
      clear c6
      by_cases c7 : ((a1_0 == ((rd_T29 l0 x8_1).f0.f0) && (a1_1 == ((rd_T29 l0 x8_1).f0.f1))) && (a1_2 == ((rd_T29 l0 x8_1).f1))) = true
      ·rw [if_pos c7] at H
       have c7b0 : ((a1_0 == ((rd_T29 l0 x8_1).f0.f0) && (a1_1 == ((rd_T29 l0 x8_1).f0.f1))) && (a1_2 == ((rd_T29 l0 x8_1).f1))) = true := c7
       clear c7
       obtain rfl := Option.some.inj H
       have hcz8 := blk_cell BK116.out
       have hfz8 := blk_frozen BK116.out
       have p117 : 0 ≤ (x8_1 : Int) := of_decide_eq_true (by first | (with_reducible assumption) | assumption)
       have q117 : x8_1 < (l0.length : Int) := of_decide_eq_true (by first | (with_reducible assumption) | assumption)
       obtain ⟨ad117, e117, hx117_0, hx117_1, hx117_2⟩ := at_T29 (Kd.C_below HR0.out HB.out) x8_1 p117 q117
       cases e117
       replace p117 := eq_true p117
       replace q117 := eq_true q117
       go_wp2
       repeat (go_quiet (fail); try go_wp2)
       go_ret
       exact ⟨eq_, bl_⟩
      ·rw [if_neg c7] at H
       have c7b0 : ((a1_0 == ((rd_T29 l0 x8_1).f0.f0) && (a1_1 == ((rd_T29 l0 x8_1).f0.f1))) && (a1_2 == ((rd_T29 l0 x8_1).f1))) = false := by simpa using c7
       clear c7
       have H' := Aside0.mk H
       clear H
       have hcz9 := blk_cell BK116.out
       have hfz9 := blk_frozen BK116.out
       have p117 : 0 ≤ (x8_1 : Int) := of_decide_eq_true (by first | (with_reducible assumption) | assumption)
       have q117 : x8_1 < (l0.length : Int) := of_decide_eq_true (by first | (with_reducible assumption) | assumption)
       obtain ⟨ad117, e117, hx117_0, hx117_1, hx117_2⟩ := at_T29 (Kd.C_below HR0.out HB.out) x8_1 p117 q117
       cases e117
       replace p117 := eq_true p117
       replace q117 := eq_true q117
       go_wp2
       repeat (go_quiet (fail); try go_wp2)
       go_roundg k1
       case measure => have := HK1.out; omega
       case rel => exact ⟨(wrap64 (x8_1 + 1)), (by first | rfl | (simp; done) | (simp [*]; done)), H', ⟨by have := HK1.out; omega⟩, ⟨bk_ BK116⟩, ⟨bl_⟩⟩
     ·rw [if_neg c6] at H
      exact absurd H (by simp)
    ·rw [if_neg c5] at H
     exact absurd H (by simp)
   ·rw [if_neg c4] at H
    have c4b0 : decide (x8_1 < (l0.length : Int)) = false := decide_eq_false c4
    clear c4
    obtain rfl := Option.some.inj H
    go_wp2
    repeat (go_quiet (fail); try go_wp2)
    go_ret
    exact ⟨eq_, bl_⟩
def impl_Fact_102.f (k : Nat) (l0 : List (S29)) (a1_0 : Int) (a1_1 : Int) (a1_2 : Int) : Option (Bool) := (impl_Fact_134.f k l0 a1_0 a1_1 a1_2).bind fun t119 => (some (decide (t119 ≥ 0)))
set_option maxHeartbeats 8000000 in
set_option maxRecDepth 100000 in
theorem impl_Fact_102.calls (k : Nat) (A0 : Option Addr) (c0 : Nat) (l0 : List (S29)) (a1_0 : Int) (a1_1 : Int) (a1_2 : Int) (r : Bool) (w : World) (hr0 : Kd.C k29 w A0 l0.length l0) (hc0 : l0.length ≤ c0) (h : impl_Fact_102.f k l0 a1_0 a1_1 a1_2 = some r) :
  Calls Try.prog 102 #[.slice A0 l0.length c0, .agg #[.int .i64 a1_0, .int .i64 a1_1, .int .i64 a1_2]] w fun e w' => e = .returned (.bool r) ∧ Below w.heap.size w w' := by
 have hu29 := Try.underlying29
 have HR0 := Aside0.mk hr0
 have HC0 := Aside0.mk hc0
 clear hr0 hc0
 have HB := Aside0.mk (Below.refl w.heap.size w)
 have H : ((impl_Fact_134.f k l0 a1_0 a1_1 a1_2).bind fun t119 => (some (decide (t119 ≥ 0)))) = some r := h
 clear h
 obtain ⟨t119, A3, H⟩ := bindE_ H
 obtain rfl := Option.some.inj H
 go_enter Try.func102, Try.ntmps102
 go_wp2_with (first | ((with_reducible refine gate_dst (N := 3) rfl ?_); refine box_event ?hg (N := 3) ?hd (cs := #[.int .i64 a1_0, .int .i64 a1_1, .int .i64 a1_2]) (t := 29) ?hr ?_; (case hd => rfl); (case hg => rfl); (case hr => first | (go_simp; done) | (go_simp; rfl)); intro gb118 hg w4 hbox hb; have BK118 := Aside0.mk (hbox); have GW118 := gs_ hg; have GE118 := gs_ hg; replace HB := hbs_ hb; clear hb hbox hg; have hcz5 := blk_cell BK118.out; have hfz5 := blk_frozen BK118.out) | ((with_reducible refine gate_callee (f := 134) rfl ?_); refine goesC_ (some 7) Try.func134 #[.slice A0 l0.length c0, .agg #[.int .i64 a1_0, .int .i64 a1_1, .int .i64 a1_2]] ?_; (with_reducible refine (impl_Fact_134.calls k _ _ l0 a1_0 a1_1 a1_2 t119 _ ?side1 ?side2 A3.out).mono ?_); (case side1 => repeat (first | exact (Kd.C_below HR0.out HB.out) | (with_reducible refine Kd.C_alloc ?_ _) | (with_reducible refine Kd.C_drewN ?_ _) | (with_reducible refine Kd.C_drew ?_))); (case side2 => exact HC0.out); rintro e w6 ⟨rfl, hb⟩; refine ⟨_, rfl, ?_⟩; replace BK118 := bkb_ BK118 hb; replace HB := hbs_ hb; clear hb))
 go_ret
 exact ⟨eq_, bl_⟩
-- NOT PRINTED: function 155 (impl_derive_1)
def impl_factOk.f (a0_0 : Int) (a0_1 : Int) (a0_2 : Int) : Option (Bool) := (impl_RoleOk.f a0_0 a0_1).bind fun t121 => (if t121 = true then ((impl_isPerson.f a0_2).bind fun t122 => (some t122)) else (some false))
set_option maxHeartbeats 8000000 in
set_option maxRecDepth 100000 in
theorem impl_factOk.calls (a0_0 : Int) (a0_1 : Int) (a0_2 : Int) (r : Bool) (w : World) (h : impl_factOk.f a0_0 a0_1 a0_2 = some r) :
  Calls Try.prog 169 #[.agg #[.int .i64 a0_0, .int .i64 a0_1, .int .i64 a0_2]] w fun e w' => e = .returned (.bool r) ∧ Below w.heap.size w w' := by
 have hu29 := Try.underlying29
 have hu27 := Try.underlying27
 have HB := Aside0.mk (Below.refl w.heap.size w)
 have H : ((impl_RoleOk.f a0_0 a0_1).bind fun t121 => (if t121 = true then ((impl_isPerson.f a0_2).bind fun t122 => (some t122)) else (some false))) = some r := h
 clear h
 obtain ⟨t121, A2, H⟩ := bindE_ H
 by_cases c3 : t121 = true
 ·subst c3
  replace H := ite_t_ H
  obtain ⟨t122, A4, H⟩ := bindE_ H
  obtain rfl := Option.some.inj H
  go_enter Try.func169, Try.ntmps169
  go_wp2_with (first | ((with_reducible refine gate_dst (N := 1) rfl ?_); refine box_event ?hg (N := 1) ?hd (cs := #[.int .i64 a0_0, .int .i64 a0_1, .int .i64 a0_2]) (t := 29) ?hr ?_; (case hd => rfl); (case hg => rfl); (case hr => first | (go_simp; done) | (go_simp; rfl)); intro gb120 hg w5 hbox hb; have BK120 := Aside0.mk (hbox); have GW120 := gs_ hg; have GE120 := gs_ hg; replace HB := hbs_ hb; clear hb hbox hg; have hcz6 := blk_cell BK120.out; have hfz6 := blk_frozen BK120.out) | ((with_reducible refine gate_callee (f := 103) rfl ?_); refine goesC_ (some 5) Try.func103 #[.agg #[.int .i64 a0_0, .int .i64 a0_1]] ?_; (with_reducible refine (impl_RoleOk.calls a0_0 a0_1 true _ A2.out).mono ?_); rintro e w7 ⟨rfl, hb⟩; refine ⟨_, rfl, ?_⟩; replace BK120 := bkb_ BK120 hb; replace HB := hbs_ hb; clear hb; have hcz8 := blk_cell BK120.out; have hfz8 := blk_frozen BK120.out) | (go_at_call 121; (with_reducible refine (impl_isPerson.calls a0_2 t122 _ A4.out).mono ?_); rintro e w' ⟨rfl, ⟨nd, rfl⟩⟩))
  go_ret
  exact ⟨eq_, bl_⟩
 ·replace c3 := Bool.eq_false_iff.mpr c3
  subst c3
  replace H := ite_f_ H
  obtain rfl := Option.some.inj H
  go_enter Try.func169, Try.ntmps169
  go_wp2_with (first | ((with_reducible refine gate_dst (N := 1) rfl ?_); refine box_event ?hg (N := 1) ?hd (cs := #[.int .i64 a0_0, .int .i64 a0_1, .int .i64 a0_2]) (t := 29) ?hr ?_; (case hd => rfl); (case hg => rfl); (case hr => first | (go_simp; done) | (go_simp; rfl)); intro gb120 hg w9 hbox hb; have BK120 := Aside0.mk (hbox); have GW120 := gs_ hg; have GE120 := gs_ hg; replace HB := hbs_ hb; clear hb hbox hg; have hcz10 := blk_cell BK120.out; have hfz10 := blk_frozen BK120.out) | ((with_reducible refine gate_callee (f := 103) rfl ?_); refine goesC_ (some 5) Try.func103 #[.agg #[.int .i64 a0_0, .int .i64 a0_1]] ?_; (with_reducible refine (impl_RoleOk.calls a0_0 a0_1 false _ A2.out).mono ?_); rintro e w11 ⟨rfl, hb⟩; refine ⟨_, rfl, ?_⟩; replace BK120 := bkb_ BK120 hb; replace HB := hbs_ hb; clear hb))
  go_ret
  exact ⟨eq_, bl_⟩
def impl_whoOf.l0 : Nat → List Int → List (S29) → Int → Int → Int → Int → Option (List Int)
 | 0, _, _, _, _, _, _ => none
 | k + 1, x5, x9, x10, x11, x124000, x124001 => if x11 < x10 then (if 0 ≤ x11 then (if x11 < (x9.length : Int) then (if (((rd_T29 x9 x11).f0.f0) == x124000 && (((rd_T29 x9 x11).f0.f1) == x124001)) = true then ((impl_factOk.f ((rd_T29 x9 x11).f0.f0) ((rd_T29 x9 x11).f0.f1) ((rd_T29 x9 x11).f1)).bind fun t129 => (if t129 = true then (if x5.length < 17592186044416 then (impl_whoOf.l0 k (x5 ++ [x11]) x9 x10 (wrap64 (x11 + 1)) x124000 x124001) else (none)) else (impl_whoOf.l0 k x5 x9 x10 (wrap64 (x11 + 1)) x124000 x124001))) else (impl_whoOf.l0 k x5 x9 x10 (wrap64 (x11 + 1)) x124000 x124001)) else (none)) else (none)) else (some x5)
def impl_whoOf.f (k : Nat) (l0 : List (S29)) (a1_0 : Int) (a1_1 : Int) : Option (List Int) := impl_whoOf.l0 k (([] : List Int)) l0 (l0.length : Int) 0 a1_0 a1_1
set_option maxHeartbeats 8000000 in
set_option maxRecDepth 100000 in
theorem impl_whoOf.calls (k : Nat) (A0 : Option Addr) (c0 : Nat) (l0 : List (S29)) (a1_0 : Int) (a1_1 : Int) (r : List Int) (w : World) (hr0 : Kd.C k29 w A0 l0.length l0) (hc0 : l0.length ≤ c0) (h : impl_whoOf.f k l0 a1_0 a1_1 = some r) :
  Calls Try.prog 156 #[.slice A0 l0.length c0, .agg #[.int .i64 a1_0, .int .i64 a1_1]] w fun e w' => ∃ v0_ : Value, e = .returned (v0_) ∧ Kd.R (Kd.int .i64) 3 w' w.heap.size (fun _ => True) v0_ r ∧ Below w.heap.size w w' := by
 have hu27 := Try.underlying27
 have hu29 := Try.underlying29
 have HR0 := Aside0.mk hr0
 have HC0 := Aside0.mk hc0
 clear hr0 hc0
 have HB := Aside0.mk (Below.refl w.heap.size w)
 have H : (impl_whoOf.l0 k (([] : List Int)) l0 (l0.length : Int) 0 a1_0 a1_1) = some r := h
 clear h
 obtain ⟨y124, hy124⟩ : ∃ y_ : List Int, y_ = (([] : List Int)) := ⟨_, rfl⟩
 replace H : (impl_whoOf.l0 k y124 l0 (l0.length : Int) 0 a1_0 a1_1) = some r := by first | (rw [hy124]; with_reducible exact H) | (have H2_ := (Option.bind_some _ _).symm.trans H; rw [hy124]; with_reducible exact H2_) | (have H2_ := (Option.bind_some _ _).symm.trans H; with_reducible exact H2_) | with_reducible exact H | (rw [hy124]; exact H) | exact H
 have Ny124 := Aside0.mk hy124
 clear hy124
 have H' := Aside0.mk H
 clear H
 go_enter Try.func156, Try.ntmps156
 go_wp2_with (first | ((with_reducible refine gate_dst (N := 3) rfl ?_); refine box_event ?hg (N := 3) ?hd (cs := #[.int .i64 a1_0, .int .i64 a1_1]) (t := 27) ?hr ?_; (case hd => rfl); (case hg => rfl); (case hr => first | (go_simp; done) | (go_simp; rfl)); intro gb123 hg w3 hbox hb; have BK123 := Aside0.mk (hbox); have GW123 := gs_ hg; have GE123 := gs_ hg; replace HB := hbs_ hb; clear hb hbox hg) | ((with_reducible refine gate_dst (N := 8) rfl ?_); refine Kd.R_lit (Kd.int .i64) _ 3 ?hg (N := 8) ?hd (xs := ([] : List Int)) (inner := []) (ok := fun _ => True) (okp := fun _ => True) ?hr ?hp (fun _ hk => hk) trivial (Below.refl _ _) (Nat.le_refl _) (by simp) ?_; (case hd => rfl); (case hg => rfl); (case hr => first | (go_simp; done) | (go_simp; rfl)); (case hp => exact (Reps.none _ _)); intro v125 w4 ho5 hb hg_ hnew_; clear hg_ hnew_; (first | rw [← Ny124.out] at ho5 | (simp only [Int.reduceToNat] at ho5; rw [← Ny124.out] at ho5)); have HO126 := Aside0.mk (Kd.R_lower ho5 bls_); replace BK123 := bkb_ BK123 hb; replace HB := hbs_ hb; clear hb ho5))
 go_loopg [5, 11] k (fun kq v5 v11 w' => ∃ (x5_1 : List Int) (x11_1 : Int), v11 = .int .i64 x11_1 ∧ Aside0 (impl_whoOf.l0 kq x5_1 l0 (l0.length : Int) x11_1 a1_0 a1_1 = some r) ∧ Aside0 (kq ≤ k) ∧ Aside0 (Kd.R (Kd.int .i64) 3 w' w.heap.size (fun _ => True) v5 x5_1) ∧ Aside0 (w'.heap[gb123]? = some (.cells #[.int .i64 a1_0, .int .i64 a1_1] 27 (0, 0))) ∧ Aside0 (Below w.heap.size w w'))
 case atStart => exact ⟨(y124), (0), (by first | rfl | (simp; done) | (simp [*]; done)), H', ⟨Nat.le_refl _⟩, ⟨by (with_reducible repeat (first | apply Kd.R_alloc | apply Kd.R_drewN | apply Kd.R_drew)); exact HO126.out⟩, ⟨bk_ BK123⟩, ⟨bl_⟩⟩
 case round =>
  clear H'
  try clear c1
  try clear p2
  obtain ⟨x5_1, x11_1, rfl, HA, HK1, HO_5, BK123, HB⟩ := hrel
  cases gk with
  | zero => exact absurd HA.out (by simp [impl_whoOf.l0])
  | succ k1 =>
   have H := HA.out
   clear HA
   simp only [impl_whoOf.l0] at H
   by_cases c6 : x11_1 < (l0.length : Int)
   ·rw [if_pos c6] at H
    have c6b0 : decide (x11_1 < (l0.length : Int)) = true := decide_eq_true c6
    clear c6
    by_cases c7 : 0 ≤ x11_1
    ·rw [if_pos c7] at H
     have c7b0 : decide (0 ≤ x11_1) = true := decide_eq_true c7
     clear c7
     by_cases c8 : x11_1 < (l0.length : Int)
     ·rw [if_pos c8] at H
      have c8b0 : decide (x11_1 < (l0.length : Int)) = true := decide_eq_true c8
      clear c8
      by_cases c9 : (((rd_T29 l0 x11_1).f0.f0) == a1_0 && (((rd_T29 l0 x11_1).f0.f1) == a1_1)) = true
      ·rw [if_pos c9] at H
       have c9b0 : (((rd_T29 l0 x11_1).f0.f0) == a1_0 && (((rd_T29 l0 x11_1).f0.f1) == a1_1)) = true := c9
       (try (have c9b1 : decide (((rd_T29 l0 x11_1).f0.f0) = a1_0 && (((rd_T29 l0 x11_1).f0.f1) == a1_1)) = true := by simpa using c9))
       (try (have c9b2 : (((rd_T29 l0 x11_1).f0.f0) == a1_0 && (((rd_T29 l0 x11_1).f0.f1) == a1_1)) = true := by simpa using c9))
       clear c9
       obtain ⟨t129, A10, H⟩ := bindE_ H
       by_cases c11 : t129 = true
       ·subst c11
        replace H := ite_t_ H
        by_cases c12 : x5_1.length < 17592186044416
        ·rw [if_pos c12] at H
         have LMc12 := Aside0.mk c12
         clear c12
         obtain ⟨y130, hy130⟩ : ∃ y_ : List Int, y_ = (x5_1 ++ [x11_1]) := ⟨_, rfl⟩
         replace H : (impl_whoOf.l0 k1 y130 l0 (l0.length : Int) (wrap64 (x11_1 + 1)) a1_0 a1_1) = some r := by first | (rw [hy130]; with_reducible exact H) | (have H2_ := (Option.bind_some _ _).symm.trans H; rw [hy130]; with_reducible exact H2_) | (have H2_ := (Option.bind_some _ _).symm.trans H; with_reducible exact H2_) | with_reducible exact H | (rw [hy130]; exact H) | exact H
         have Ny130 := Aside0.mk hy130
         clear hy130
         have H' := Aside0.mk H
         clear H
         have p127 : 0 ≤ (x11_1 : Int) := of_decide_eq_true (by first | (with_reducible assumption) | assumption)
         have q127 : x11_1 < (l0.length : Int) := of_decide_eq_true (by first | (with_reducible assumption) | assumption)
         obtain ⟨ad127, e127, hx127_0, hx127_1, hx127_2⟩ := at_T29 (Kd.C_below HR0.out HB.out) x11_1 p127 q127
         cases e127
         replace p127 := eq_true p127
         replace q127 := eq_true q127
         go_wp2_with (first | ((with_reducible refine gate_dst (N := 7) rfl ?_); refine box_event ?hg (N := 7) ?hd (cs := #[.int .i64 0, .int .i64 0, .int .i64 0]) (t := 29) ?hr ?_; (case hd => rfl); (case hg => rfl); (case hr => first | (go_simp; done) | (go_simp; rfl)); intro gb128 hg w13 hbox hb; replace HO_5 := Aside0.mk (Kd.R_below (by (with_reducible repeat (first | apply Kd.R_alloc | apply Kd.R_drewN | apply Kd.R_drew)); exact HO_5.out) hb); have BK128 := Aside0.mk (hbox); have GW128 := gs_ hg; have GE128 := gs_ hg; replace HB := hbs_ hb; have NB123_128 := Aside0.mk ((by rw [hg]; exact Nat.ne_of_lt (blk_lt (g := gb123) (o := .cells #[.int .i64 a1_0, .int .i64 a1_1] 27 (0, 0)) (bk_ BK123)) : gb123 ≠ gb128)); have NB128_123 := Aside0.mk ((by rw [hg]; exact Nat.ne_of_gt (blk_lt (g := gb123) (o := .cells #[.int .i64 a1_0, .int .i64 a1_1] 27 (0, 0)) (bk_ BK123)) : gb128 ≠ gb123)); replace BK123 := bkb_ BK123 hb; clear hb hbox hg; have hnb14 := NB128_123.out; have hnc14 := NB123_128.out; have hcz15 := blk_cell BK128.out; have hfz15 := blk_frozen BK128.out; have hcz16 := blk_cell BK123.out; have hfz16 := blk_frozen BK123.out) | (go_at_call 169; (with_reducible refine (impl_factOk.calls ((rd_T29 l0 x11_1).f0.f0) ((rd_T29 l0 x11_1).f0.f1) ((rd_T29 l0 x11_1).f1) true _ A10.out).mono ?_); rintro e w17 ⟨rfl, hb⟩; replace HO_5 := Aside0.mk (Kd.R_below (by (with_reducible repeat (first | apply Kd.R_alloc | apply Kd.R_drewN | apply Kd.R_drew)); exact (Kd.R_mono (Kd.R_far (p := ⟨gb128, 2, none⟩) (Kd.R_far (p := ⟨gb128, 1, none⟩) (Kd.R_far (p := ⟨gb128, 0, none⟩) (Kd.R_types HO_5.out BK128.out (by decide)) (fun _ hk => hk.2) (.int .i64 ((rd_T29 l0 x11_1).f0.f0))) (fun _ hk => hk.2) (.int .i64 ((rd_T29 l0 x11_1).f0.f1))) (fun _ hk => hk.2) (.int .i64 ((rd_T29 l0 x11_1).f1))) (fun _ h_ => h_.1))) hb); replace BK123 := Aside0.mk (blk_below (g := gb123) (o := .cells #[.int .i64 a1_0, .int .i64 a1_1] 27 (0, 0)) (bk_ BK123) hb); replace BK128 := Aside0.mk (blk_below (g := gb128) (o := .cells #[.int .i64 ((rd_T29 l0 x11_1).f0.f0), .int .i64 ((rd_T29 l0 x11_1).f0.f1), .int .i64 ((rd_T29 l0 x11_1).f1)] 29 (0, 0)) (bk_ BK128) hb); replace HB := hbs_ hb; clear hb) | ((with_reducible refine gate_builtin (b := .append) (xs := #[.tmp 24, .tmp 26]) rfl ?_); at_builtin; refine Kd.R_append (Kd.int .i64) (w0 := w) w.heap.size rfl (.tmp 24) (.tmp 26) 32 3 (.int .i64 0) 8 rfl Try.underlying32 info3 rfl (by decide) (by omega) u5 x5_1 x11_1 [.int .i64 x11_1] (fun _ => True) (fun _ => False) rfl rfl ?aP (fun _ hk => hk.elim) ?aF ?aO ?aB ?aS ?aL ?_; (case aP => exact rfl); (case aB => exact bl_); (case aF => exact (fun _ _ => trivial)); (case aO => exact (by (with_reducible repeat (first | apply Kd.R_alloc | apply Kd.R_drewN | apply Kd.R_drew)); exact HO_5.out)); (case aS => exact bls_); (case aL => have := LMc12.out; omega); intro v131 w18 ho hb hg hat; rw [← Ny130.out] at ho; replace BK123 := Aside0.mk (blk_grown (g := gb123) (o := .cells #[.int .i64 a1_0, .int .i64 a1_1] 27 (0, 0)) (bk_ BK123) hg (Kd.R_ne HO_5.out BK123.out (by decide))); replace BK128 := Aside0.mk (blk_grown (g := gb128) (o := .cells #[.int .i64 ((rd_T29 l0 x11_1).f0.f0), .int .i64 ((rd_T29 l0 x11_1).f0.f1), .int .i64 ((rd_T29 l0 x11_1).f1)] 29 (0, 0)) (bk_ BK128) hg (Kd.R_ne HO_5.out BK128.out (by decide))); replace HB := Aside0.mk (hb); have HO132 := Aside0.mk (ho); clear HO_5; clear ho hb hg hat))
         go_roundg k1
         case measure => have := HK1.out; omega
         case rel => exact ⟨(y130), (wrap64 (x11_1 + 1)), (by first | rfl | (simp; done) | (simp [*]; done)), H', ⟨by have := HK1.out; omega⟩, ⟨by (with_reducible repeat (first | apply Kd.R_alloc | apply Kd.R_drewN | apply Kd.R_drew)); exact HO132.out⟩, ⟨bk_ BK123⟩, ⟨bl_⟩⟩
        ·rw [if_neg c12] at H
         exact absurd H (by simp)
       ·replace c11 := Bool.eq_false_iff.mpr c11
        subst c11
        replace H := ite_f_ H
        have H' := Aside0.mk H
        clear H
        have p127 : 0 ≤ (x11_1 : Int) := of_decide_eq_true (by first | (with_reducible assumption) | assumption)
        have q127 : x11_1 < (l0.length : Int) := of_decide_eq_true (by first | (with_reducible assumption) | assumption)
        obtain ⟨ad127, e127, hx127_0, hx127_1, hx127_2⟩ := at_T29 (Kd.C_below HR0.out HB.out) x11_1 p127 q127
        cases e127
        replace p127 := eq_true p127
        replace q127 := eq_true q127
        go_wp2_with (first | ((with_reducible refine gate_dst (N := 7) rfl ?_); refine box_event ?hg (N := 7) ?hd (cs := #[.int .i64 0, .int .i64 0, .int .i64 0]) (t := 29) ?hr ?_; (case hd => rfl); (case hg => rfl); (case hr => first | (go_simp; done) | (go_simp; rfl)); intro gb128 hg w19 hbox hb; replace HO_5 := Aside0.mk (Kd.R_below (by (with_reducible repeat (first | apply Kd.R_alloc | apply Kd.R_drewN | apply Kd.R_drew)); exact HO_5.out) hb); have BK128 := Aside0.mk (hbox); have GW128 := gs_ hg; have GE128 := gs_ hg; replace HB := hbs_ hb; have NB123_128 := Aside0.mk ((by rw [hg]; exact Nat.ne_of_lt (blk_lt (g := gb123) (o := .cells #[.int .i64 a1_0, .int .i64 a1_1] 27 (0, 0)) (bk_ BK123)) : gb123 ≠ gb128)); have NB128_123 := Aside0.mk ((by rw [hg]; exact Nat.ne_of_gt (blk_lt (g := gb123) (o := .cells #[.int .i64 a1_0, .int .i64 a1_1] 27 (0, 0)) (bk_ BK123)) : gb128 ≠ gb123)); replace BK123 := bkb_ BK123 hb; clear hb hbox hg; have hnb20 := NB128_123.out; have hnc20 := NB123_128.out; have hcz21 := blk_cell BK128.out; have hfz21 := blk_frozen BK128.out; have hcz22 := blk_cell BK123.out; have hfz22 := blk_frozen BK123.out) | (go_at_call 169; (with_reducible refine (impl_factOk.calls ((rd_T29 l0 x11_1).f0.f0) ((rd_T29 l0 x11_1).f0.f1) ((rd_T29 l0 x11_1).f1) false _ A10.out).mono ?_); rintro e w23 ⟨rfl, hb⟩; replace HO_5 := Aside0.mk (Kd.R_below (by (with_reducible repeat (first | apply Kd.R_alloc | apply Kd.R_drewN | apply Kd.R_drew)); exact (Kd.R_mono (Kd.R_far (p := ⟨gb128, 2, none⟩) (Kd.R_far (p := ⟨gb128, 1, none⟩) (Kd.R_far (p := ⟨gb128, 0, none⟩) (Kd.R_types HO_5.out BK128.out (by decide)) (fun _ hk => hk.2) (.int .i64 ((rd_T29 l0 x11_1).f0.f0))) (fun _ hk => hk.2) (.int .i64 ((rd_T29 l0 x11_1).f0.f1))) (fun _ hk => hk.2) (.int .i64 ((rd_T29 l0 x11_1).f1))) (fun _ h_ => h_.1))) hb); replace BK123 := Aside0.mk (blk_below (g := gb123) (o := .cells #[.int .i64 a1_0, .int .i64 a1_1] 27 (0, 0)) (bk_ BK123) hb); replace BK128 := Aside0.mk (blk_below (g := gb128) (o := .cells #[.int .i64 ((rd_T29 l0 x11_1).f0.f0), .int .i64 ((rd_T29 l0 x11_1).f0.f1), .int .i64 ((rd_T29 l0 x11_1).f1)] 29 (0, 0)) (bk_ BK128) hb); replace HB := hbs_ hb; clear hb))
        go_roundg k1
        case measure => have := HK1.out; omega
        case rel => exact ⟨(x5_1), (wrap64 (x11_1 + 1)), (by first | rfl | (simp; done) | (simp [*]; done)), H', ⟨by have := HK1.out; omega⟩, ⟨by (with_reducible repeat (first | apply Kd.R_alloc | apply Kd.R_drewN | apply Kd.R_drew)); exact HO_5.out⟩, ⟨bk_ BK123⟩, ⟨bl_⟩⟩
      ·rw [if_neg c9] at H
       have c9b0 : (((rd_T29 l0 x11_1).f0.f0) == a1_0 && (((rd_T29 l0 x11_1).f0.f1) == a1_1)) = false := by simpa using c9
       (try (have c9b1 : decide (((rd_T29 l0 x11_1).f0.f0) = a1_0 && (((rd_T29 l0 x11_1).f0.f1) == a1_1)) = false := by simpa using c9))
       (try (have c9b2 : (((rd_T29 l0 x11_1).f0.f0) == a1_0 && (((rd_T29 l0 x11_1).f0.f1) == a1_1)) = false := by simpa using c9))
       (try (have c9b3 : ¬ (((rd_T29 l0 x11_1).f0.f0) = a1_0 && (((rd_T29 l0 x11_1).f0.f1) == a1_1)) := by simpa using c9))
       clear c9
       have H' := Aside0.mk H
       clear H
       have p127 : 0 ≤ (x11_1 : Int) := of_decide_eq_true (by first | (with_reducible assumption) | assumption)
       have q127 : x11_1 < (l0.length : Int) := of_decide_eq_true (by first | (with_reducible assumption) | assumption)
       obtain ⟨ad127, e127, hx127_0, hx127_1, hx127_2⟩ := at_T29 (Kd.C_below HR0.out HB.out) x11_1 p127 q127
       cases e127
       replace p127 := eq_true p127
       replace q127 := eq_true q127
       go_wp2_with (first | ((with_reducible refine gate_dst (N := 7) rfl ?_); refine box_event ?hg (N := 7) ?hd (cs := #[.int .i64 0, .int .i64 0, .int .i64 0]) (t := 29) ?hr ?_; (case hd => rfl); (case hg => rfl); (case hr => first | (go_simp; done) | (go_simp; rfl)); intro gb128 hg w24 hbox hb; replace HO_5 := Aside0.mk (Kd.R_below (by (with_reducible repeat (first | apply Kd.R_alloc | apply Kd.R_drewN | apply Kd.R_drew)); exact HO_5.out) hb); have BK128 := Aside0.mk (hbox); have GW128 := gs_ hg; have GE128 := gs_ hg; replace HB := hbs_ hb; have NB123_128 := Aside0.mk ((by rw [hg]; exact Nat.ne_of_lt (blk_lt (g := gb123) (o := .cells #[.int .i64 a1_0, .int .i64 a1_1] 27 (0, 0)) (bk_ BK123)) : gb123 ≠ gb128)); have NB128_123 := Aside0.mk ((by rw [hg]; exact Nat.ne_of_gt (blk_lt (g := gb123) (o := .cells #[.int .i64 a1_0, .int .i64 a1_1] 27 (0, 0)) (bk_ BK123)) : gb128 ≠ gb123)); replace BK123 := bkb_ BK123 hb; clear hb hbox hg; have hnb25 := NB128_123.out; have hnc25 := NB123_128.out; have hcz26 := blk_cell BK128.out; have hfz26 := blk_frozen BK128.out; have hcz27 := blk_cell BK123.out; have hfz27 := blk_frozen BK123.out))
       go_roundg k1
       case measure => have := HK1.out; omega
       case rel => exact ⟨(x5_1), (wrap64 (x11_1 + 1)), (by first | rfl | (simp; done) | (simp [*]; done)), H', ⟨by have := HK1.out; omega⟩, ⟨by (with_reducible repeat (first | apply Kd.R_alloc | apply Kd.R_drewN | apply Kd.R_drew)); exact Kd.R_mono (Kd.R_far (p := ⟨gb128, 2, none⟩) (Kd.R_far (p := ⟨gb128, 1, none⟩) (Kd.R_far (p := ⟨gb128, 0, none⟩) (Kd.R_types HO_5.out BK128.out (by decide)) (fun _ hk => hk.2) (.int .i64 ((rd_T29 l0 x11_1).f0.f0))) (fun _ hk => hk.2) (.int .i64 ((rd_T29 l0 x11_1).f0.f1))) (fun _ hk => hk.2) (.int .i64 ((rd_T29 l0 x11_1).f1))) (fun _ hk => trivial)⟩, ⟨bk_ BK123⟩, ⟨bl_⟩⟩
     ·rw [if_neg c8] at H
      exact absurd H (by simp)
    ·rw [if_neg c7] at H
     exact absurd H (by simp)
   ·rw [if_neg c6] at H
    have c6b0 : decide (x11_1 < (l0.length : Int)) = false := decide_eq_false c6
    clear c6
    obtain rfl := Option.some.inj H
    go_wp2
    go_ret
    exact ⟨_, eq_, by (with_reducible repeat (first | apply Kd.R_alloc | apply Kd.R_drewN | apply Kd.R_drew)); exact HO_5.out, bl_⟩
end Go.Proofs.Ytppdmcimddhbaaa.PD
