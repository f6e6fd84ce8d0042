import Derived.Test.YtppdmcimddhbaaaKFnPoliciesPEx0
import Derived.Test.YtppdmcimddhbaaaKFnPoliciesPEx1
import Derived.Test.YtppdmcimddhbaaaKFnPoliciesPEx9
-- A text of this claim: written by the session's own program out of the translation (wip/tools). Lean checks it.
namespace Go.Proofs.Ytppdmcimddhbaaa.PE
open Go.RowKit Go.Proofs.YtppdmcimddhbaaaW.PrintWords Go.Proofs.YtppdmcimddhbaaaW.PrintLast Go.Proofs.YtppdmcimddhbaaaW.PrintMore
attribute [local go_sem] max2_int min2_int max_two min_two max_three min_three max_four min_four   -- for this text's walks alone
set_option linter.unusedVariables false
set_option linter.unusedSimpArgs false
attribute [local go_sem high] eqA27
mutual
def impl_ReadPolicy.j0 : Nat → ByteArray → Int → Int → Bool → Option ((List (S71)) × Bool)
 | 0, _, _, _, _ => none
 | k + 1, x0, x4, x5, x22 => if x22 = true then (some (([] : List (S71)), false)) else (impl_ReadPolicy.l0 k x0 x5 x4 0 ([] : List (S71)))
def impl_ReadPolicy.l0 : Nat → ByteArray → Int → Int → Int → List (S71) → Option ((List (S71)) × Bool)
 | 0, _, _, _, _, _ => none
 | k + 1, x0, x5, x25, x26, x294000 => if x26 < x25 then ((impl_readVars.f k x0 x5 5).bind fun bt294 => (if bt294.2.2 = true then (if 0 < (bt294.1.length : Int) then (if 1 < (bt294.1.length : Int) then (if 2 < (bt294.1.length : Int) then (if 3 < (bt294.1.length : Int) then (if 4 < (bt294.1.length : Int) then (if x294000.length < 3518437208883 then (impl_ReadPolicy.l0 k x0 bt294.2.1 x25 (wrap64 (x26 + 1)) (x294000 ++ [(⟨rd bt294.1 0, (⟨rd bt294.1 1, rd bt294.1 2⟩ : S27), rd bt294.1 3, rd bt294.1 4⟩ : S71)])) else (none)) else (none)) else (none)) else (none)) else (none)) else (none)) else (some (([] : List (S71)), false)))) else (if x5 = (x0.size : Int) then ((impl_PolicyOk.f k x294000).bind fun t307 => (if t307 = true then (some (x294000, true)) else (some (([] : List (S71)), false)))) else (some (([] : List (S71)), false)))
end
def impl_ReadPolicy.f (k : Nat) (a0 : ByteArray) : Option ((List (S71)) × Bool) := (impl_ReadVar.f k a0 0).bind fun bt290 => (if bt290.2.2 = true then (impl_ReadPolicy.j0 k a0 bt290.1 bt290.2.1 (decide (bt290.1 > 40))) else (impl_ReadPolicy.j0 k a0 bt290.1 bt290.2.1 true))
def impl_ReadPolicy.T10 : Bool × List (List Nat × List Nat) := (true, [([], []), ([0], [0]), ([], []), ([2], [2]), ([3], [3]), ([], []), ([5], [5]), ([6], [6]), ([], []), ([8], [8]), ([9], [9]), ([7, 10], [7, 10]), ([], []), ([12], [12]), ([13], [13]), ([], []), ([15], [15]), ([16], [16]), ([4, 11, 14, 17], [4, 11, 14, 17]), ([18], [18]), ([1, 19], [1, 19]), ([0, 1, 2, 3, 4, 5, 6, 7, 8, 9, 10, 11, 12, 13, 14, 15, 16, 17, 18, 19, 20], []), ([21, 20, 20, 0, 1, 2, 3, 4, 5, 6, 7, 8, 9, 10, 11, 12, 13, 14, 15, 16, 17, 18, 19, 20], [20, 21])])
def impl_ReadPolicy.B10 : List Nat := [0, 1, 0, 4, 12, 0, 32, 96, 0, 256, 768, 2016, 0, 4096, 12288, 0, 32768, 98304, 262140, 524284, 1048575, 2097151, 4194303]
theorem impl_ReadPolicy.tab10 : rtab .any (opsOf Try.f44 10) = impl_ReadPolicy.T10 := by kernel_rfl
theorem impl_ReadPolicy.bits10 : waitsOk impl_ReadPolicy.T10.2 impl_ReadPolicy.B10 = true := by kernel_rfl
set_option maxHeartbeats 8000000 in
set_option maxRecDepth 100000 in
theorem impl_ReadPolicy.calls (k : Nat) (a0 : ByteArray) (r1 : List (S71)) (r2 : Bool) (w : World) (h : impl_ReadPolicy.f k a0 = some (r1, r2)) :
  Calls Try.prog 44 #[.string a0] w fun e w' => ∃ v0_ : Value, e = .returned (.tuple #[.agg #[v0_], .bool r2]) ∧ Kd.R k71 71 w' w.heap.size (fun _ => True) v0_ r1 ∧ Below w.heap.size w w' := by
 have hu68 := Try.underlying68
 have hu27 := Try.underlying27
 have hu71 := Try.underlying71
 have HB := Aside0.mk (Below.refl w.heap.size w)
 have H : ((impl_ReadVar.f k a0 0).bind fun bt290 => (if bt290.2.2 = true then (impl_ReadPolicy.j0 k a0 bt290.1 bt290.2.1 (decide (bt290.1 > 40))) else (impl_ReadPolicy.j0 k a0 bt290.1 bt290.2.1 true))) = some (r1, r2) := h
 clear h
 obtain ⟨⟨t290, t291, t292⟩, A2, H⟩ := bindE_ H
 replace H : (if t292 = true then (impl_ReadPolicy.j0 k a0 t290 t291 (decide (t290 > 40))) else (impl_ReadPolicy.j0 k a0 t290 t291 true)) = some (r1, r2) := H
 have HC3 := Aside0.mk H
 clear H
 go_enter Try.func44, Try.ntmps44
 go_upto_region 2 with (first | ((with_reducible refine gate_dst (N := 2) rfl ?_); refine box_event ?hg (N := 2) ?hd (cs := #[.slice none 0 0]) (t := 68) ?hr ?_; (case hd => rfl); (case hg => rfl); (case hr => first | (go_simp; done) | (go_simp; rfl)); intro gb289 hg w4 hbox hb; have BK289 := Aside0.mk (hbox); have GW289 := gs_ hg; have GE289 := gs_ hg; replace HB := hbs_ hb; clear hb hbox hg) | ((with_reducible refine gate_callee (f := 98) rfl ?_); refine goesC_ (some 13) Try.func98 #[.string a0, .int .i64 0] ?_; (with_reducible refine (impl_ReadVar.calls k a0 0 t290 t291 t292 _ A2.out).mono ?_); rintro e w' ⟨rfl, ⟨nd, rfl⟩⟩; refine ⟨_, rfl, ?_⟩))
 (try simp only [Act.put, List.setIfInBounds_toArray, List.set_cons_zero, List.set_cons_succ])
 go_cut [22] (fun v22 wc => ∃ (kq : Nat) (x22_2 : Bool), v22 = .bool x22_2 ∧ Aside0 (impl_ReadPolicy.j0 kq a0 t290 t291 x22_2 = some (r1, r2)) ∧ Aside0 (kq ≤ k) ∧ Aside0 (wc.heap[gb289]? = some (.cells #[(.slice none 0 0)] 68 (0, 0))) ∧ Aside0 (Below w.heap.size w wc))
 case first =>
  have H := HC3.out
  clear HC3
  by_cases c5 : t292 = true
  ·subst c5
   replace H := ite_t_ H
   have H' := Aside0.mk H
   clear H
   go_wp2
   go_meet
   case rel => exact ⟨_, (decide (t290 > 40)), (by first | rfl | (simp; done) | (simp [*]; done)), H', ⟨by first | omega | exact Nat.le_refl _⟩, ⟨bk_ BK289⟩, ⟨bl_⟩⟩
  ·replace c5 := Bool.eq_false_iff.mpr c5
   subst c5
   replace H := ite_f_ H
   have H' := Aside0.mk H
   clear H
   go_wp2
   go_meet
   case rel => exact ⟨_, (true), (by first | rfl | (simp; done) | (simp [*]; done)), H', ⟨by first | omega | exact Nat.le_refl _⟩, ⟨bk_ BK289⟩, ⟨bl_⟩⟩
 case rest =>
  clear HC3
  try clear p2
  try clear c4
  try clear c5
  obtain ⟨kq, x22_2, rfl, HA, HJ2, BK289, HB⟩ := hcut
  cases kq with
  | zero => exact absurd HA.out (by simp [impl_ReadPolicy.j0])
  | succ kj2 =>
   have H := HA.out
   clear HA
   simp only [impl_ReadPolicy.j0] at H
   by_cases c6 : x22_2 = true
   ·subst c6
    replace H := ite_t_ H
    simp only [Option.some.injEq, Prod.mk.injEq] at H
    obtain ⟨rfl, rfl⟩ := H
    have hcz7 := blk_cell BK289.out
    have hfz7 := blk_frozen BK289.out
    go_wp2
    refine bodyPost_ret (results_ct rfl _ _ gb289 68 #[.slice none 0 0] (0, 0) _ rfl (bk_ BK289) Try.underlying68 rfl (by kernel_rfl)) rfl ?_
    exact ⟨_, eq_, by first | exact Kd.R_nil _ _ _ _ _ | exact Kd.N_nil _ _ _ _ _ | exact Kd.V_nil _ _ _ _ _ | exact Kd.Q_nil _ _ _ _ _ | exact Kd.S_nil _ _ _ _ _, bl_⟩
   ·replace c6 := Bool.eq_false_iff.mpr c6
    subst c6
    replace H := ite_f_ H
    have H' := Aside0.mk H
    clear H
    go_wp2_with (first | ((with_reducible refine gate_dst (N := 7) rfl ?_); refine box_event ?hg (N := 7) ?hd (cs := #[.slice none 0 0]) (t := 68) ?hr ?_; (case hd => rfl); (case hg => rfl); (case hr => first | (go_simp; done) | (go_simp; rfl)); intro gb293 hg w8 hbox hb; have BK293 := Aside0.mk (hbox); have GW293 := gs_ hg; have GE293 := gs_ hg; replace HB := hbs_ hb; have NB289_293 := Aside0.mk ((by rw [hg]; exact Nat.ne_of_lt (blk_lt (g := gb289) (o := .cells #[.slice none 0 0] 68 (0, 0)) (bk_ BK289)) : gb289 ≠ gb293)); have NB293_289 := Aside0.mk ((by rw [hg]; exact Nat.ne_of_gt (blk_lt (g := gb289) (o := .cells #[.slice none 0 0] 68 (0, 0)) (bk_ BK289)) : gb293 ≠ gb289)); replace BK289 := bkb_ BK289 hb; clear hb hbox hg; have hnb9 := NB293_289.out; have hnc9 := NB289_293.out; have hcz10 := blk_cell BK293.out; have hfz10 := blk_frozen BK293.out))
    go_loopg [5, 26] kj2 (fun kq v5 v26 w' => ∃ (x5_2 : Int) (x26_2 : Int) (x294000_2 : List (S71)) (u294000 : Value), v5 = .int .i64 x5_2 ∧ v26 = .int .i64 x26_2 ∧ Aside0 (impl_ReadPolicy.l0 kq a0 x5_2 t290 x26_2 x294000_2 = some (r1, r2)) ∧ Aside0 (kq ≤ kj2) ∧ Aside0 (Kd.R k71 71 w' w.heap.size (fun _ => True) u294000 x294000_2) ∧ Aside0 (w'.heap[gb289]? = some (.cells #[(.slice none 0 0)] 68 (0, 0))) ∧ Aside0 (w'.heap[gb293]? = some (.cells #[u294000] 68 (0, 0))) ∧ Aside0 (Below w.heap.size w w'))
    case atStart => exact ⟨(t291), (0), (([] : List (S71))), (.slice none 0 0), (by first | rfl | (simp; done) | (simp [*]; done)), (by first | rfl | (simp; done) | (simp [*]; done)), H', ⟨Nat.le_refl _⟩, ⟨by first | exact Kd.R_nil _ _ _ _ _ | exact Kd.N_nil _ _ _ _ _ | exact Kd.V_nil _ _ _ _ _ | exact Kd.Q_nil _ _ _ _ _ | exact Kd.S_nil _ _ _ _ _⟩, ⟨bk_ BK289⟩, ⟨bk_ BK293⟩, ⟨bl_⟩⟩
    case round =>
     clear H'
     try clear p2
     try clear c4
     try clear c5
     try clear c6
     try clear c9
     try clear hcz10
     try clear hcz7
     try clear hfz10
     try clear hfz7
     try clear p2
     obtain ⟨x5_2, x26_2, x294000_2, u294000, rfl, rfl, HA, HK2, HO_294000, BK289, BK293, HB⟩ := hrel
     cases gk with
     | zero => exact absurd HA.out (by simp [impl_ReadPolicy.l0])
     | succ k2 =>
      have H := HA.out
      clear HA
      simp only [impl_ReadPolicy.l0] at H
      by_cases c11 : x26_2 < t290
      ·rw [if_pos c11] at H
       have c11b0 : decide (x26_2 < t290) = true := decide_eq_true c11
       clear c11
       obtain ⟨⟨t294, t295, t296⟩, A12, H⟩ := bindE_ H
       replace H : (if t296 = true then (if 0 < (t294.length : Int) then (if 1 < (t294.length : Int) then (if 2 < (t294.length : Int) then (if 3 < (t294.length : Int) then (if 4 < (t294.length : Int) then (if x294000_2.length < 3518437208883 then (impl_ReadPolicy.l0 k2 a0 t295 t290 (wrap64 (x26_2 + 1)) (x294000_2 ++ [(⟨rd t294 0, (⟨rd t294 1, rd t294 2⟩ : S27), rd t294 3, rd t294 4⟩ : S71)])) else (none)) else (none)) else (none)) else (none)) else (none)) else (none)) else (some (([] : List (S71)), false))) = some (r1, r2) := H
       by_cases c13 : t296 = true
       ·subst c13
        replace H := ite_t_ H
        by_cases c14 : 0 < (t294.length : Int)
        ·rw [if_pos c14] at H
         have c14b0 : decide (0 < (t294.length : Int)) = true := decide_eq_true c14
         have c14b1 : decide (0 < t294.length) = true := decide_eq_true (by omega)
         clear c14
         by_cases c15 : 1 < (t294.length : Int)
         ·rw [if_pos c15] at H
          have c15b0 : decide (1 < (t294.length : Int)) = true := decide_eq_true c15
          have c15b1 : decide (1 < t294.length) = true := decide_eq_true (by omega)
          clear c15
          by_cases c16 : 2 < (t294.length : Int)
          ·rw [if_pos c16] at H
           have c16b0 : decide (2 < (t294.length : Int)) = true := decide_eq_true c16
           have c16b1 : decide (2 < t294.length) = true := decide_eq_true (by omega)
           clear c16
           by_cases c17 : 3 < (t294.length : Int)
           ·rw [if_pos c17] at H
            have c17b0 : decide (3 < (t294.length : Int)) = true := decide_eq_true c17
            have c17b1 : decide (3 < t294.length) = true := decide_eq_true (by omega)
            clear c17
            by_cases c18 : 4 < (t294.length : Int)
            ·rw [if_pos c18] at H
             have c18b0 : decide (4 < (t294.length : Int)) = true := decide_eq_true c18
             have c18b1 : decide (4 < t294.length) = true := decide_eq_true (by omega)
             clear c18
             by_cases c19 : x294000_2.length < 3518437208883
             ·rw [if_pos c19] at H
              have LMc19 := Aside0.mk c19
              clear c19
              obtain ⟨y304, hy304⟩ : ∃ y_ : List (S71), y_ = (x294000_2 ++ [(⟨rd t294 0, (⟨rd t294 1, rd t294 2⟩ : S27), rd t294 3, rd t294 4⟩ : S71)]) := ⟨_, rfl⟩
              replace H : (impl_ReadPolicy.l0 k2 a0 t295 t290 (wrap64 (x26_2 + 1)) y304) = some (r1, r2) := by first | (rw [hy304]; with_reducible exact H) | (have H2_ := (Option.bind_some _ _).symm.trans H; rw [hy304]; with_reducible exact H2_) | (have H2_ := (Option.bind_some _ _).symm.trans H; with_reducible exact H2_) | with_reducible exact H | (rw [hy304]; exact H) | exact H
              have Ny304 := Aside0.mk hy304
              clear hy304
              have H' := Aside0.mk H
              clear H
              try go_wp2_with (first | ((with_reducible refine gate_callee (f := 99) rfl ?_); refine goesC_ (some 31) Try.func99 #[.string a0, .int .i64 x5_2, .int .i64 5] ?_; (with_reducible refine (impl_readVars.calls k2 a0 x5_2 5 t294 t295 true _ A12.out).mono ?_); rintro e w20 ⟨v297, rfl, ho0, hb⟩; refine ⟨_, rfl, ?_⟩; replace HO_294000 := Aside0.mk (Kd.R_below (by (with_reducible repeat (first | apply Kd.R_alloc | apply Kd.R_drewN | apply Kd.R_drew)); exact HO_294000.out) hb); have HO298 := Aside0.mk (Kd.R_lower ho0 bls_); replace BK289 := bkb_ BK289 hb; replace BK293 := bkb_ BK293 hb; replace HB := hbs_ hb; (try clear hb); (try clear hb2); (try clear hk); (try clear hi); (try clear ho0)))
              replace HO_294000 := Aside0.mk (Kd.R_drew HO_294000.out)
              replace HO298 := Aside0.mk (Kd.R_drew HO298.out)
              replace BK289 := Aside0.mk (blk_drew BK289.out)
              replace BK293 := Aside0.mk (blk_drew BK293.out)
              replace HB := Aside0.mk (below_drew1 HB.out)
              obtain ⟨Ao22, co22, eo22⟩ := Kd.R_slice HO298.out
              (first | subst eo22 | (injection eo22 with f1_ f2_ f3_; have f4_ := f1_.symm; have f5_ := f3_.symm; clear f1_ f2_ f3_; subst f4_; subst f5_))
              have p299 : 0 ≤ (0 : Int) := (by omega)
              have q299 : 0 < (t294.length : Int) := of_decide_eq_true (by first | (with_reducible assumption) | assumption)
              obtain ⟨ad299, e299, hx299_0⟩ := Kd.at_int (Kd.R_reads' HO298.out).2.2 0 p299 q299
              cases e299
              have qi299 : (0 < t294.length) = True := eq_true (by omega)
              (try rw [show ((0 : Int)).toNat = 0 from rfl] at hx299_0)
              (try rw [Addr.add_zero'] at hx299_0)
              replace p299 := eq_true p299
              replace q299 := eq_true q299
              have p300 : 0 ≤ (1 : Int) := (by omega)
              have q300 : 1 < (t294.length : Int) := of_decide_eq_true (by first | (with_reducible assumption) | assumption)
              obtain ⟨ad300, e300, hx300_0⟩ := Kd.at_int (Kd.R_reads' HO298.out).2.2 1 p300 q300
              obtain rfl : ad299 = ad300 := (by injection e300)
              (try simp only [show (1 : Int).toNat = 1 from rfl, Nat.reduceMul, Nat.reduceEqDiff, Go.Addr.add, ↓reduceIte] at hx300_0)
              have qi300 : (1 < t294.length) = True := eq_true (by omega)
              (try rw [show ((1 : Int)).toNat = 1 from rfl] at hx300_0)
              replace p300 := eq_true p300
              replace q300 := eq_true q300
              have p301 : 0 ≤ (2 : Int) := (by omega)
              have q301 : 2 < (t294.length : Int) := of_decide_eq_true (by first | (with_reducible assumption) | assumption)
              obtain ⟨ad301, e301, hx301_0⟩ := Kd.at_int (Kd.R_reads' HO298.out).2.2 2 p301 q301
              obtain rfl : ad299 = ad301 := (by injection e301)
              (try simp only [show (2 : Int).toNat = 2 from rfl, Nat.reduceMul, Nat.reduceEqDiff, Go.Addr.add, ↓reduceIte] at hx301_0)
              have qi301 : (2 < t294.length) = True := eq_true (by omega)
              (try rw [show ((2 : Int)).toNat = 2 from rfl] at hx301_0)
              replace p301 := eq_true p301
              replace q301 := eq_true q301
              have p302 : 0 ≤ (3 : Int) := (by omega)
              have q302 : 3 < (t294.length : Int) := of_decide_eq_true (by first | (with_reducible assumption) | assumption)
              obtain ⟨ad302, e302, hx302_0⟩ := Kd.at_int (Kd.R_reads' HO298.out).2.2 3 p302 q302
              obtain rfl : ad299 = ad302 := (by injection e302)
              (try simp only [show (3 : Int).toNat = 3 from rfl, Nat.reduceMul, Nat.reduceEqDiff, Go.Addr.add, ↓reduceIte] at hx302_0)
              have qi302 : (3 < t294.length) = True := eq_true (by omega)
              (try rw [show ((3 : Int)).toNat = 3 from rfl] at hx302_0)
              replace p302 := eq_true p302
              replace q302 := eq_true q302
              have p303 : 0 ≤ (4 : Int) := (by omega)
              have q303 : 4 < (t294.length : Int) := of_decide_eq_true (by first | (with_reducible assumption) | assumption)
              obtain ⟨ad303, e303, hx303_0⟩ := Kd.at_int (Kd.R_reads' HO298.out).2.2 4 p303 q303
              obtain rfl : ad299 = ad303 := (by injection e303)
              (try simp only [show (4 : Int).toNat = 4 from rfl, Nat.reduceMul, Nat.reduceEqDiff, Go.Addr.add, ↓reduceIte] at hx303_0)
              have qi303 : (4 < t294.length) = True := eq_true (by omega)
              (try rw [show ((4 : Int)).toNat = 4 from rfl] at hx303_0)
              replace p303 := eq_true p303
              replace q303 := eq_true q303
              refine start_ (n := 23) (S := fun w' => w'.cell? ⟨gb293, 0, none⟩ = some (u294000) ∧ w'.cell? ad299 = some (.int .i64 (rd t294 0)) ∧ w'.cell? ⟨ad299.block, ad299.off + 1, none⟩ = some (.int .i64 (rd t294 1)) ∧ w'.cell? ⟨ad299.block, ad299.off + 2, none⟩ = some (.int .i64 (rd t294 2)) ∧ w'.cell? ⟨ad299.block, ad299.off + 3, none⟩ = some (.int .i64 (rd t294 3)) ∧ w'.cell? ⟨ad299.block, ad299.off + 4, none⟩ = some (.int .i64 (rd t294 4))) (ds := [20, 22]) #[false, false, false, false, false, false, false, false, false, false, false, false, false, false, false, false, false, false, false, false, false, false, false] (by kernel_rfl) rfl rfl ⟨(blk_cell BK293.out 0).trans rfl, hx299_0, hx300_0, hx301_0, hx302_0, hx303_0⟩ (fun hHeld => ?_); refine with_tabW impl_ReadPolicy.tab10 impl_ReadPolicy.bits10 (fun HT_ HW_ => ?_)
              generalize w20.drew = w21 at HO_294000 HO298 BK289 BK293 HB hx299_0 hx300_0 hx301_0 hx302_0 hx303_0 hHeld ⊢
              refine pureZ_ (i := 0) (some 38) #[true, false, false, false, false, false, false, false, false, false, false, false, false, false, false, false, false, false, false, false, false, false, false] (any_of HT_.out (by kernel_rfl)) ?_
              refine pureZ_ (i := 2) (some 40) #[true, false, true, false, false, false, false, false, false, false, false, false, false, false, false, false, false, false, false, false, false, false, false] (any_of HT_.out (by kernel_rfl)) ?_
              refine pureZ_ (i := 3) (some 41) #[true, false, true, true, false, false, false, false, false, false, false, false, false, false, false, false, false, false, false, false, false, false, false] (any_of HT_.out (by kernel_rfl)) ?_
              refine pureZ_ (i := 5) (some 43) #[true, false, true, true, false, true, false, false, false, false, false, false, false, false, false, false, false, false, false, false, false, false, false] (any_of HT_.out (by kernel_rfl)) ?_
              refine pureZ_ (i := 6) (some 44) #[true, false, true, true, false, true, true, false, false, false, false, false, false, false, false, false, false, false, false, false, false, false, false] (any_of HT_.out (by kernel_rfl)) ?_
              refine pureZ_ (i := 8) (some 46) #[true, false, true, true, false, true, true, false, true, false, false, false, false, false, false, false, false, false, false, false, false, false, false] (any_of HT_.out (by kernel_rfl)) ?_
              refine pureZ_ (i := 9) (some 47) #[true, false, true, true, false, true, true, false, true, true, false, false, false, false, false, false, false, false, false, false, false, false, false] (any_of HT_.out (by kernel_rfl)) ?_
              refine pureZ_ (i := 12) (some 50) #[true, false, true, true, false, true, true, false, true, true, false, false, true, false, false, false, false, false, false, false, false, false, false] (any_of HT_.out (by kernel_rfl)) ?_
              refine pureZ_ (i := 13) (some 51) #[true, false, true, true, false, true, true, false, true, true, false, false, true, true, false, false, false, false, false, false, false, false, false] (any_of HT_.out (by kernel_rfl)) ?_
              refine pureZ_ (i := 15) (some 53) #[true, false, true, true, false, true, true, false, true, true, false, false, true, true, false, true, false, false, false, false, false, false, false] (any_of HT_.out (by kernel_rfl)) ?_
              refine pureZ_ (i := 16) (some 54) #[true, false, true, true, false, true, true, false, true, true, false, false, true, true, false, true, true, false, false, false, false, false, false] (any_of HT_.out (by kernel_rfl)) ?_
              refine takeZ_ (i := 1) (some 39) #[true, true, true, true, false, true, true, false, true, true, false, false, true, true, false, true, true, false, false, false, false, false, false] (take_ofW HT_.out HW_.out (by kernel_rfl)) hHeld ?_
              refine takeZ_ (i := 4) (some 42) #[true, true, true, true, true, true, true, false, true, true, false, false, true, true, false, true, true, false, false, false, false, false, false] (take_ofW HT_.out HW_.out (by kernel_rfl)) hHeld ?_
              refine takeZ_ (i := 7) (some 45) #[true, true, true, true, true, true, true, true, true, true, false, false, true, true, false, true, true, false, false, false, false, false, false] (take_ofW HT_.out HW_.out (by kernel_rfl)) hHeld ?_
              refine takeZ_ (i := 10) (some 48) #[true, true, true, true, true, true, true, true, true, true, true, false, true, true, false, true, true, false, false, false, false, false, false] (take_ofW HT_.out HW_.out (by kernel_rfl)) hHeld ?_
              refine pureZ_ (i := 11) (some 49) #[true, true, true, true, true, true, true, true, true, true, true, true, true, true, false, true, true, false, false, false, false, false, false] (any_of HT_.out (by kernel_rfl)) ?_
              refine takeZ_ (i := 14) (some 52) #[true, true, true, true, true, true, true, true, true, true, true, true, true, true, true, true, true, false, false, false, false, false, false] (take_ofW HT_.out HW_.out (by kernel_rfl)) hHeld ?_
              refine takeZ_ (i := 17) (some 55) #[true, true, true, true, true, true, true, true, true, true, true, true, true, true, true, true, true, true, false, false, false, false, false] (take_ofW HT_.out HW_.out (by kernel_rfl)) hHeld ?_
              refine pureZ_ (i := 18) (some 56) #[true, true, true, true, true, true, true, true, true, true, true, true, true, true, true, true, true, true, true, false, false, false, false] (any_of HT_.out (by kernel_rfl)) ?_
              refine one_ (i := 19) (N := some 57) #[true, true, true, true, true, true, true, true, true, true, true, true, true, true, true, true, true, true, true, true, false, false, false] rfl rfl (one_of HT_.out (by kernel_rfl)) (by decide) (fun K hK => ?_)
              refine value_ (w1 := ?_) (v := ?_) (by rfl) rfl ?_ ?_
              rotate_left 2
              ·go_simp
               constructor
               ·rfl
               ·rfl
              refine hK.out _ _ ⟨(blk_cell (blk_alloc BK293.out _) 0).trans rfl, (World.cell?_alloc_lt _ _ _ (World.block_lt_of_cell? _ _ (hHeld.2.1))).trans (hHeld.2.1), (World.cell?_alloc_lt _ _ _ (World.block_lt_of_cell? _ _ (hHeld.2.2.1))).trans (hHeld.2.2.1), (World.cell?_alloc_lt _ _ _ (World.block_lt_of_cell? _ _ (hHeld.2.2.2.1))).trans (hHeld.2.2.2.1), (World.cell?_alloc_lt _ _ _ (World.block_lt_of_cell? _ _ (hHeld.2.2.2.2.1))).trans (hHeld.2.2.2.2.1), (World.cell?_alloc_lt _ _ _ (World.block_lt_of_cell? _ _ (hHeld.2.2.2.2.2))).trans (hHeld.2.2.2.2.2)⟩ (fun hHeld => ?_)
              clear hK K
              refine norm_ (a' := ?_) ?_ ?_
              rotate_left
              ·show Act.put _ (some 57) _ = _
               simp only [Act.put, List.setIfInBounds_toArray, List.set_cons_zero, List.set_cons_succ, i64_w, i32_w]
               rfl
              refine last_ (i := 20) (N := some 58) #[true, true, true, true, true, true, true, true, true, true, true, true, true, true, true, true, true, true, true, true, true, false, false] rfl rfl (one_of HT_.out (by kernel_rfl)) (by decide) (fun K hK => ?_)
              refine Kd.R_append_step k71 (w0 := w) w.heap.size (by rfl) (.tmp 39) (.tmp 57) 66 71 (.agg #[(.int .i64 0), (.int .i64 0), (.int .i64 0), (.int .i64 0), (.int .i64 0)]) 40 rfl Try.underlying66 info71 rfl (by decide) (by omega) u294000 x294000_2 (⟨rd t294 0, (⟨rd t294 1, rd t294 2⟩ : S27), rd t294 3, rd t294 4⟩ : S71) [.int .i64 (rd t294 0), .int .i64 (rd t294 1), .int .i64 (rd t294 2), .int .i64 (rd t294 3), .int .i64 (rd t294 4)] (fun _ => True) (fun _ => False) rfl rfl ?aP (fun _ hk => hk.elim) ?aF ?aO ?aB ?aS ?aL ?_
              (case aP => exact k71_mkM _ _ _ (⟨rd t294 0, (⟨rd t294 1, rd t294 2⟩ : S27), rd t294 3, rd t294 4⟩ : S71))
              (case aB => exact bl_)
              (case aF => exact (fun _ _ => trivial))
              (case aO => exact (by (with_reducible repeat (first | apply Kd.R_alloc | apply Kd.R_drewN | apply Kd.R_drew)); exact HO_294000.out))
              (case aS => exact bls_)
              (case aL => have := LMc19.out; omega)
              intro v305 w23 ho hb hg hat
              rw [← Ny304.out] at ho
              replace BK289 := Aside0.mk (blk_grown (g := gb289) (o := .cells #[.slice none 0 0] 68 (0, 0)) (bk_ BK289) hg (Kd.R_ne HO_294000.out BK289.out (by decide)))
              replace BK293 := Aside0.mk (blk_grown (g := gb293) (o := .cells #[u294000] 68 (0, 0)) (bk_ BK293) hg (Kd.R_ne HO_294000.out BK293.out (by decide)))
              replace HO298 := Aside0.mk (Kd.R_over' (by (with_reducible repeat (first | apply Kd.R_alloc | apply Kd.R_drewN | apply Kd.R_drew)); exact HO298.out) (Kd.R_typed (by (with_reducible repeat (first | apply Kd.R_alloc | apply Kd.R_drewN | apply Kd.R_drew)); exact HO_294000.out)) (by decide) hg)
              replace HB := Aside0.mk (hb)
              have HO306 := Aside0.mk (ho)
              clear HO_294000
              clear ho hb hg hat
              obtain ⟨Ao24, co24, eo24⟩ := Kd.R_slice HO306.out
              (first | subst eo24 | (injection eo24 with f1_ f2_ f3_; have f4_ := f1_.symm; have f5_ := f3_.symm; clear f1_ f2_ f3_; subst f4_; subst f5_))
              refine hK.out _ _ ?_
              clear hK K
              refine norm_ (a' := ?_) ?_ ?_
              rotate_left
              ·show Act.put _ (some 58) _ = _
               simp only [Act.put, List.setIfInBounds_toArray, List.set_cons_zero, List.set_cons_succ, i64_w, i32_w]
               rfl
              refine pureZ_ (i := 21) (some 59) #[true, true, true, true, true, true, true, true, true, true, true, true, true, true, true, true, true, true, true, true, true, true, false] (any_of HT_.out (by kernel_rfl)) ?_
              refine last_ (i := 22) (N := none) #[true, true, true, true, true, true, true, true, true, true, true, true, true, true, true, true, true, true, true, true, true, true, true] rfl rfl (one_of HT_.out (by kernel_rfl)) (by decide) (fun K hK => ?_)
              have hs25 : w23.cell? ⟨gb293, 0, none⟩ = some (u294000) := (blk_cell BK293.out 0).trans rfl
              have hfs25 := blk_frozen BK293.out 0
              have hns25_0 := NB289_293.out
              have hms25_0 := NB293_289.out
              refine skip_ (w1 := ?_) (by rfl) rfl ?_ ?_
              rotate_left
              ·go_simp
               rfl
              refine hK.out _ _ ?_
              clear hK K
              refine done_ (done_of HT_.out (by kernel_rfl)) ?_
              try go_wp2
              go_roundg k2
              case measure => have := HJ2.out; have := HK2.out; omega
              case rel => exact ⟨(t295), (wrap64 (x26_2 + 1)), (y304), (.slice Ao24 y304.length co24), (by first | rfl | (simp; done) | (simp [*]; done)), (by first | rfl | (simp; done) | (simp [*]; done)), H', ⟨by have := HJ2.out; have := HK2.out; omega⟩, ⟨by (with_reducible repeat (first | apply Kd.R_alloc | apply Kd.R_drewN | apply Kd.R_drew)); exact Kd.R_mono (Kd.R_far (p := ⟨gb293, 0, none⟩) (Kd.R_types HO306.out BK293.out (by decide)) (fun _ hk => hk.2) (.slice Ao24 y304.length co24)) (fun _ hk => trivial)⟩, ⟨bk_ BK289⟩, ⟨bk_ BK293⟩, ⟨bl_⟩⟩
             ·rw [if_neg c19] at H
              exact absurd H (by simp)
            ·rw [if_neg c18] at H
             exact absurd H (by simp)
           ·rw [if_neg c17] at H
            exact absurd H (by simp)
          ·rw [if_neg c16] at H
           exact absurd H (by simp)
         ·rw [if_neg c15] at H
          exact absurd H (by simp)
        ·rw [if_neg c14] at H
         exact absurd H (by simp)
       ·replace c13 := Bool.eq_false_iff.mpr c13
        subst c13
        replace H := ite_f_ H
        simp only [Option.some.injEq, Prod.mk.injEq] at H
        obtain ⟨rfl, rfl⟩ := H
        go_wp2_with (first | ((with_reducible refine gate_callee (f := 99) rfl ?_); refine goesC_ (some 31) Try.func99 #[.string a0, .int .i64 x5_2, .int .i64 5] ?_; (with_reducible refine (impl_readVars.calls k2 a0 x5_2 5 t294 t295 false _ A12.out).mono ?_); rintro e w26 ⟨v297, rfl, ho0, hb⟩; refine ⟨_, rfl, ?_⟩; replace HO_294000 := Aside0.mk (Kd.R_below (by (with_reducible repeat (first | apply Kd.R_alloc | apply Kd.R_drewN | apply Kd.R_drew)); exact HO_294000.out) hb); have HO298 := Aside0.mk (Kd.R_lower ho0 bls_); replace BK289 := bkb_ BK289 hb; replace BK293 := bkb_ BK293 hb; replace HB := hbs_ hb; (try clear hb); (try clear hb2); (try clear hk); (try clear hi); (try clear ho0); have hnb27 := NB289_293.out; have hnc27 := NB293_289.out; have hcz28 := blk_cell BK289.out; have hfz28 := blk_frozen BK289.out))
        refine bodyPost_ret (results_ct rfl _ _ gb289 68 #[.slice none 0 0] (0, 0) _ rfl (bk_ BK289) Try.underlying68 rfl (by kernel_rfl)) rfl ?_
        exact ⟨_, eq_, by first | exact Kd.R_nil _ _ _ _ _ | exact Kd.N_nil _ _ _ _ _ | exact Kd.V_nil _ _ _ _ _ | exact Kd.Q_nil _ _ _ _ _ | exact Kd.S_nil _ _ _ _ _, bl_⟩
      ·rw [if_neg c11] at H
       have c11b0 : decide (x26_2 < t290) = false := decide_eq_false c11
       clear c11
       by_cases c29 : x5_2 = (a0.size : Int)
       ·rw [if_pos c29] at H
        have c29b0 : (x5_2 == (a0.size : Int)) = true := beq_iff_eq.mpr c29
        have c29b1 : (x5_2 != (a0.size : Int)) = false := bne_eq_false_iff_eq.mpr c29
        clear c29
        obtain ⟨t307, A30, H⟩ := bindE_ H
        by_cases c31 : t307 = true
        ·subst c31
         replace H := ite_t_ H
         simp only [Option.some.injEq, Prod.mk.injEq] at H
         obtain ⟨rfl, rfl⟩ := H
         have hnb32 := NB293_289.out
         have hnc32 := NB289_293.out
         have hcz33 := blk_cell BK293.out
         have hfz33 := blk_frozen BK293.out
         obtain ⟨Ao34, co34, eo34⟩ := Kd.R_slice HO_294000.out
         subst eo34
         go_wp2_with (first | (go_at_call 49; (with_reducible refine (impl_PolicyOk.calls k2 _ _ x294000_2 true _ ?side1 ?side2 A30.out).mono ?_); (case side1 => repeat (first | exact (Kd.R_reads' HO_294000.out).2.2 | (with_reducible refine Kd.C_alloc ?_ _) | (with_reducible refine Kd.C_drewN ?_ _) | (with_reducible refine Kd.C_drew ?_))); (case side2 => exact (Kd.R_reads' HO_294000.out).2.1); rintro e w35 ⟨rfl, hb⟩; replace HO_294000 := Aside0.mk (Kd.R_below (by (with_reducible repeat (first | apply Kd.R_alloc | apply Kd.R_drewN | apply Kd.R_drew)); exact HO_294000.out) hb); replace BK289 := bkb_ BK289 hb; replace BK293 := bkb_ BK293 hb; replace HB := hbs_ hb; clear hb; have hcz36 := blk_cell BK293.out; have hfz36 := blk_frozen BK293.out; have hcz37 := blk_cell BK289.out; have hfz37 := blk_frozen BK289.out))
         refine bodyPost_ret (results_ct rfl _ _ gb289 68 #[.slice Ao34 x294000_2.length co34] (0, 0) _ rfl (bk_ BK289) Try.underlying68 rfl (by kernel_rfl)) rfl ?_
         exact ⟨_, eq_, by (with_reducible repeat (first | apply Kd.R_alloc | apply Kd.R_drewN | apply Kd.R_drew)); exact Kd.R_mono (Kd.R_far (p := ⟨gb289, 0, none⟩) (Kd.R_types HO_294000.out BK289.out (by decide)) (fun _ hk => hk.2) (.slice Ao34 x294000_2.length co34)) (fun _ hk => trivial), bl_⟩
        ·replace c31 := Bool.eq_false_iff.mpr c31
         subst c31
         replace H := ite_f_ H
         simp only [Option.some.injEq, Prod.mk.injEq] at H
         obtain ⟨rfl, rfl⟩ := H
         have hnb38 := NB293_289.out
         have hnc38 := NB289_293.out
         have hcz39 := blk_cell BK293.out
         have hfz39 := blk_frozen BK293.out
         obtain ⟨Ao40, co40, eo40⟩ := Kd.R_slice HO_294000.out
         subst eo40
         go_wp2_with (first | (go_at_call 49; (with_reducible refine (impl_PolicyOk.calls k2 _ _ x294000_2 false _ ?side1 ?side2 A30.out).mono ?_); (case side1 => repeat (first | exact (Kd.R_reads' HO_294000.out).2.2 | (with_reducible refine Kd.C_alloc ?_ _) | (with_reducible refine Kd.C_drewN ?_ _) | (with_reducible refine Kd.C_drew ?_))); (case side2 => exact (Kd.R_reads' HO_294000.out).2.1); rintro e w41 ⟨rfl, hb⟩; replace HO_294000 := Aside0.mk (Kd.R_below (by (with_reducible repeat (first | apply Kd.R_alloc | apply Kd.R_drewN | apply Kd.R_drew)); exact HO_294000.out) hb); replace BK289 := bkb_ BK289 hb; replace BK293 := bkb_ BK293 hb; replace HB := hbs_ hb; clear hb; have hcz42 := blk_cell BK289.out; have hfz42 := blk_frozen BK289.out))
         refine bodyPost_ret (results_ct rfl _ _ gb289 68 #[.slice none 0 0] (0, 0) _ rfl (bk_ BK289) Try.underlying68 rfl (by kernel_rfl)) rfl ?_
         exact ⟨_, eq_, by first | exact Kd.R_nil _ _ _ _ _ | exact Kd.N_nil _ _ _ _ _ | exact Kd.V_nil _ _ _ _ _ | exact Kd.Q_nil _ _ _ _ _ | exact Kd.S_nil _ _ _ _ _, bl_⟩
       ·rw [if_neg c29] at H
        have c29b0 : (x5_2 == (a0.size : Int)) = false := beq_eq_false_iff_ne.mpr c29
        have c29b1 : (x5_2 != (a0.size : Int)) = true := bne_iff_ne.mpr c29
        simp only [Option.some.injEq, Prod.mk.injEq] at H
        obtain ⟨rfl, rfl⟩ := H
        have hnb43 := NB289_293.out
        have hnc43 := NB293_289.out
        have hcz44 := blk_cell BK289.out
        have hfz44 := blk_frozen BK289.out
        go_wp2
        refine bodyPost_ret (results_ct rfl _ _ gb289 68 #[.slice none 0 0] (0, 0) _ rfl (bk_ BK289) Try.underlying68 rfl (by kernel_rfl)) rfl ?_
        exact ⟨_, eq_, by first | exact Kd.R_nil _ _ _ _ _ | exact Kd.N_nil _ _ _ _ _ | exact Kd.V_nil _ _ _ _ _ | exact Kd.Q_nil _ _ _ _ _ | exact Kd.S_nil _ _ _ _ _, bl_⟩
def impl_varText.l0 : Nat → Int → List Int → Option (ByteArray)
 | 0, _, _ => none
 | k + 1, x0, x3 => if x0 > 127 then (if x3.length < 140737488355328 then (impl_varText.l0 k (x0 / 128) (x3 ++ [(Go.bits .or .i64 (Go.bits .and .i64 x0 127) 128) % 256])) else (none)) else (if x3.length < 140737488355328 then (some (strOfNums (x3 ++ [(x0) % 256]))) else (none))
def impl_varText.f (k : Nat) (a0 : Int) : Option (ByteArray) := impl_varText.l0 k a0 (([] : List Int))
set_option maxHeartbeats 8000000 in
set_option maxRecDepth 100000 in
theorem impl_varText.calls (k : Nat) (a0 : Int) (r : ByteArray) (w : World) (h : impl_varText.f k a0 = some r) :
  Calls Try.prog 100 #[.int .i64 a0] w fun e w' => e = .returned (.string r) ∧ Below w.heap.size w w' := by
 have HB := Aside0.mk (Below.refl w.heap.size w)
 have H : (impl_varText.l0 k a0 (([] : List Int))) = some r := h
 clear h
 obtain ⟨y308, hy308⟩ : ∃ y_ : List Int, y_ = (([] : List Int)) := ⟨_, rfl⟩
 replace H : (impl_varText.l0 k a0 y308) = some r := by first | (rw [hy308]; with_reducible exact H) | (have H2_ := (Option.bind_some _ _).symm.trans H; rw [hy308]; with_reducible exact H2_) | (have H2_ := (Option.bind_some _ _).symm.trans H; with_reducible exact H2_) | with_reducible exact H | (rw [hy308]; exact H) | exact H
 have Ny308 := Aside0.mk hy308
 clear hy308
 have H' := Aside0.mk H
 clear H
 go_enter Try.func100, Try.ntmps100
 go_wp2_with (first | ((with_reducible refine gate_dst (N := 4) rfl ?_); refine Kd.R_lit (Kd.int .u8) _ 5 ?hg (N := 4) ?hd (xs := ([] : List Int)) (inner := []) (ok := fun _ => True) (okp := fun _ => True) ?hr ?hp (fun _ hk => hk) trivial (Below.refl _ _) (Nat.le_refl _) (by simp) ?_; (case hd => rfl); (case hg => rfl); (case hr => first | (go_simp; done) | (go_simp; rfl)); (case hp => exact (Reps.none _ _)); intro v309 w2 ho3 hb hg_ hnew_; clear hg_ hnew_; (first | rw [← Ny308.out] at ho3 | (simp only [Int.reduceToNat] at ho3; rw [← Ny308.out] at ho3)); have HO310 := Aside0.mk (Kd.R_lower ho3 bls_); replace HB := hbs_ hb; clear hb ho3))
 go_loopg [0, 3] k (fun kq v0 v3 w' => ∃ (x0_1 : Int) (x3_1 : List Int), v0 = .int .i64 x0_1 ∧ Aside0 (impl_varText.l0 kq x0_1 x3_1 = some r) ∧ Aside0 (kq ≤ k) ∧ Aside0 (Kd.R (Kd.int .u8) 5 w' w.heap.size (fun _ => True) v3 x3_1) ∧ Aside0 (Below w.heap.size w w'))
 case atStart => exact ⟨(a0), (y308), (by first | rfl | (simp; done) | (simp [*]; done)), H', ⟨Nat.le_refl _⟩, ⟨by (with_reducible repeat (first | apply Kd.R_alloc | apply Kd.R_drewN | apply Kd.R_drew)); exact HO310.out⟩, ⟨bl_⟩⟩
 case round =>
  clear H'
  try clear c1
  try clear p2
  obtain ⟨x0_1, x3_1, rfl, HA, HK1, HO_3, HB⟩ := hrel
  cases gk with
  | zero => exact absurd HA.out (by simp [impl_varText.l0])
  | succ k1 =>
   have H := HA.out
   clear HA
   simp only [impl_varText.l0] at H
   by_cases c4 : x0_1 > 127
   ·rw [if_pos c4] at H
    have c4b0 : decide (127 < x0_1) = true := decide_eq_true c4
    clear c4
    by_cases c5 : x3_1.length < 140737488355328
    ·rw [if_pos c5] at H
     have LMc5 := Aside0.mk c5
     clear c5
     obtain ⟨y311, hy311⟩ : ∃ y_ : List Int, y_ = (x3_1 ++ [(Go.bits .or .i64 (Go.bits .and .i64 x0_1 127) 128) % 256]) := ⟨_, rfl⟩
     replace H : (impl_varText.l0 k1 (x0_1 / 128) y311) = some r := by first | (rw [hy311]; with_reducible exact H) | (have H2_ := (Option.bind_some _ _).symm.trans H; rw [hy311]; with_reducible exact H2_) | (have H2_ := (Option.bind_some _ _).symm.trans H; with_reducible exact H2_) | with_reducible exact H | (rw [hy311]; exact H) | exact H
     have Ny311 := Aside0.mk hy311
     clear hy311
     have H' := Aside0.mk H
     clear H
     go_wp2_with (first | ((with_reducible refine gate_builtin (b := .append) (xs := #[.tmp 7, .tmp 12]) rfl ?_); at_builtin; refine Kd.R_append (Kd.int .u8) (w0 := w) w.heap.size rfl (.tmp 7) (.tmp 12) 22 5 (.int .u8 0) 1 rfl Try.underlying22 info5 rfl (by decide) (by omega) u3 x3_1 ((Go.bits .or .i64 (Go.bits .and .i64 x0_1 127) 128) % 256) [.int .u8 ((Go.bits .or .i64 (Go.bits .and .i64 x0_1 127) 128) % 256)] (fun _ => True) (fun _ => False) rfl rfl ?aP (fun _ hk => hk.elim) ?aF ?aO ?aB ?aS ?aL ?_; (case aP => exact rfl); (case aB => exact bl_); (case aF => exact (fun _ _ => trivial)); (case aO => exact (by (with_reducible repeat (first | apply Kd.R_alloc | apply Kd.R_drewN | apply Kd.R_drew)); exact HO_3.out)); (case aS => exact bls_); (case aL => have := LMc5.out; omega); intro v312 w6 ho hb hg hat; rw [← Ny311.out] at ho; replace HB := Aside0.mk (hb); have HO313 := Aside0.mk (ho); clear HO_3; clear ho hb hg hat))
     go_roundg k1
     case measure => have := HK1.out; omega
     case rel => exact ⟨(x0_1 / 128), (y311), (by first | rfl | (simp; done) | (simp [*]; done)), H', ⟨by have := HK1.out; omega⟩, ⟨by (with_reducible repeat (first | apply Kd.R_alloc | apply Kd.R_drewN | apply Kd.R_drew)); exact HO313.out⟩, ⟨bl_⟩⟩
    ·rw [if_neg c5] at H
     exact absurd H (by simp)
   ·rw [if_neg c4] at H
    have c4b0 : decide (127 < x0_1) = false := decide_eq_false c4
    clear c4
    by_cases c7 : x3_1.length < 140737488355328
    ·rw [if_pos c7] at H
     have LMc7 := Aside0.mk c7
     clear c7
     obtain ⟨y314, hy314⟩ : ∃ y_ : List Int, y_ = (x3_1 ++ [(x0_1) % 256]) := ⟨_, rfl⟩
     replace H : (some (strOfNums y314)) = some r := by first | (rw [hy314]; with_reducible exact H) | (have H2_ := (Option.bind_some _ _).symm.trans H; rw [hy314]; with_reducible exact H2_) | (have H2_ := (Option.bind_some _ _).symm.trans H; with_reducible exact H2_) | with_reducible exact H | (rw [hy314]; exact H) | exact H
     have Ny314 := Aside0.mk hy314
     clear hy314
     obtain rfl := Option.some.inj H
     go_wp2_with (first | ((with_reducible refine gate_builtin (b := .append) (xs := #[.tmp 16, .tmp 19]) rfl ?_); at_builtin; refine Kd.R_append (Kd.int .u8) (w0 := w) w.heap.size rfl (.tmp 16) (.tmp 19) 22 5 (.int .u8 0) 1 rfl Try.underlying22 info5 rfl (by decide) (by omega) u3 x3_1 ((x0_1) % 256) [.int .u8 ((x0_1) % 256)] (fun _ => True) (fun _ => False) rfl rfl ?aP (fun _ hk => hk.elim) ?aF ?aO ?aB ?aS ?aL ?_; (case aP => exact rfl); (case aB => exact bl_); (case aF => exact (fun _ _ => trivial)); (case aO => exact (by (with_reducible repeat (first | apply Kd.R_alloc | apply Kd.R_drewN | apply Kd.R_drew)); exact HO_3.out)); (case aS => exact bls_); (case aL => have := LMc7.out; omega); intro v315 w8 ho hb hg hat; rw [← Ny314.out] at ho; replace HB := Aside0.mk (hb); have HO316 := Aside0.mk (ho); clear HO_3; clear ho hb hg hat; have hcv9 := own_string (P := Try.prog) Try.underlying22 Try.underlying5 Try.underlying9 (Kd.own_of_R HO316.out)))
     go_ret
     exact ⟨eq_, bl_⟩
    ·rw [if_neg c7] at H
     exact absurd H (by simp)
def impl_PolicyText.l0 : Nat → ByteArray → List (S71) → Int → Int → Option (ByteArray)
 | 0, _, _, _, _ => none
 | k + 1, x3, x14, x15, x16 => if x16 < x15 then (if 0 ≤ x16 then (if x16 < (x14.length : Int) then ((impl_varText.f k ((rd_T71 x14 x16).f0)).bind fun t322 => ((impl_varText.f k ((rd_T71 x14 x16).f1.f0)).bind fun t323 => (if t322.size + t323.size ≤ 9223372036854775807 then ((impl_varText.f k ((rd_T71 x14 x16).f1.f1)).bind fun t324 => (if (t322 ++ t323).size + t324.size ≤ 9223372036854775807 then ((impl_varText.f k ((rd_T71 x14 x16).f2)).bind fun t325 => (if ((t322 ++ t323) ++ t324).size + t325.size ≤ 9223372036854775807 then ((impl_varText.f k ((rd_T71 x14 x16).f3)).bind fun t326 => (if (((t322 ++ t323) ++ t324) ++ t325).size + t326.size ≤ 9223372036854775807 then (if x3.size + ((((t322 ++ t323) ++ t324) ++ t325) ++ t326).size ≤ 9223372036854775807 then (impl_PolicyText.l0 k (x3 ++ ((((t322 ++ t323) ++ t324) ++ t325) ++ t326)) x14 x15 (wrap64 (x16 + 1))) else (none)) else (none))) else (none))) else (none))) else (none)))) else (none)) else (none)) else (some x3)
def impl_PolicyText.f (k : Nat) (l0_0 : List (S71)) : Option (ByteArray) := (impl_PolicyOk.f k l0_0).bind fun t318 => (if t318 = true then ((impl_varText.f k (l0_0.length : Int)).bind fun t319 => (impl_PolicyText.l0 k t319 l0_0 (l0_0.length : Int) 0)) else (some (⟨#[]⟩ : ByteArray)))
def impl_PolicyText.T7 : Bool × List (List Nat × List Nat) := (true, [([], []), ([], []), ([1], [1]), ([2], [2]), ([], []), ([4], [4]), ([5], [5]), ([6, 3], [6]), ([3, 7], [3, 7]), ([], []), ([9], [9]), ([10], [10]), ([11, 7], [11]), ([8, 12], [8, 12]), ([], []), ([14], [14]), ([15, 12], [15]), ([13, 16], [13, 16]), ([], []), ([18], [18]), ([19, 16], [19]), ([17, 20], [17, 20]), ([0, 21], [0, 21]), ([22, 20, 0, 1, 2, 3, 4, 5, 6, 7, 8, 9, 10, 11, 12, 13, 14, 15, 16, 17, 18, 19, 20, 21, 22], [0, 22])])
def impl_PolicyText.B7 : List Nat := [0, 0, 2, 6, 0, 16, 48, 126, 254, 0, 512, 1536, 3838, 8190, 0, 16384, 57086, 131070, 0, 262144, 909054, 2097150, 4194303, 8388607]
theorem impl_PolicyText.tab7 : rtab .any (opsOf Try.f45 7) = impl_PolicyText.T7 := by kernel_rfl
theorem impl_PolicyText.bits7 : waitsOk impl_PolicyText.T7.2 impl_PolicyText.B7 = true := by kernel_rfl
set_option maxHeartbeats 8000000 in
set_option maxRecDepth 100000 in
theorem impl_PolicyText.calls (k : Nat) (A0_0 : Option Addr) (c0_0 : Nat) (l0_0 : List (S71)) (r : ByteArray) (w : World) (hr0_0 : Kd.C k71 w A0_0 l0_0.length l0_0) (hc0_0 : l0_0.length ≤ c0_0) (h : impl_PolicyText.f k l0_0 = some r) :
  Calls Try.prog 45 #[.agg #[.slice A0_0 l0_0.length c0_0]] w fun e w' => e = .returned (.string r) ∧ Below w.heap.size w w' := by
 have hu68 := Try.underlying68
 have hu71 := Try.underlying71
 have HR0_0 := Aside0.mk hr0_0
 have HC0_0 := Aside0.mk hc0_0
 clear hr0_0 hc0_0
 have HB := Aside0.mk (Below.refl w.heap.size w)
 have H : ((impl_PolicyOk.f k l0_0).bind fun t318 => (if t318 = true then ((impl_varText.f k (l0_0.length : Int)).bind fun t319 => (impl_PolicyText.l0 k t319 l0_0 (l0_0.length : Int) 0)) else (some (⟨#[]⟩ : ByteArray)))) = some r := h
 clear h
 obtain ⟨t318, A2, H⟩ := bindE_ H
 by_cases c3 : t318 = true
 ·subst c3
  replace H := ite_t_ H
  obtain ⟨t319, A4, H⟩ := bindE_ H
  have H' := Aside0.mk H
  clear H
  go_enter Try.func45, Try.ntmps45
  go_wp2_with (first | ((with_reducible refine gate_dst (N := 1) rfl ?_); refine box_event ?hg (N := 1) ?hd (cs := #[.slice A0_0 l0_0.length c0_0]) (t := 68) ?hr ?_; (case hd => rfl); (case hg => rfl); (case hr => first | (go_simp; done) | (go_simp; rfl)); intro gb317 hg w5 hbox hb; have BK317 := Aside0.mk (hbox); have GW317 := gs_ hg; have GE317 := gs_ hg; replace HB := hbs_ hb; clear hb hbox hg; have hcz6 := blk_cell BK317.out; have hfz6 := blk_frozen BK317.out) | ((with_reducible refine gate_callee (f := 49) rfl ?_); refine goesC_ (some 7) Try.func49 #[.agg #[.slice A0_0 l0_0.length c0_0]] ?_; (with_reducible refine (impl_PolicyOk.calls k _ _ l0_0 true _ ?side1 ?side2 A2.out).mono ?_); (case side1 => repeat (first | exact (Kd.C_below HR0_0.out HB.out) | (with_reducible refine Kd.C_alloc ?_ _) | (with_reducible refine Kd.C_drewN ?_ _) | (with_reducible refine Kd.C_drew ?_))); (case side2 => exact HC0_0.out); rintro e w7 ⟨rfl, hb⟩; refine ⟨_, rfl, ?_⟩; replace BK317 := bkb_ BK317 hb; replace HB := hbs_ hb; clear hb; have hcz8 := blk_cell BK317.out; have hfz8 := blk_frozen BK317.out) | ((with_reducible refine gate_callee (f := 100) rfl ?_); refine goesC_ (some 12) Try.func100 #[.int .i64 (l0_0.length : Int)] ?_; (with_reducible refine (impl_varText.calls k (l0_0.length : Int) t319 _ A4.out).mono ?_); rintro e w9 ⟨rfl, hb⟩; refine ⟨_, rfl, ?_⟩; replace BK317 := bkb_ BK317 hb; replace HB := hbs_ hb; clear hb; have hcz10 := blk_cell BK317.out; have hfz10 := blk_frozen BK317.out))
  go_loopg [3, 16] k (fun kq v3 v16 w' => ∃ (x3_1 : ByteArray) (x16_1 : Int), v3 = .string x3_1 ∧ v16 = .int .i64 x16_1 ∧ Aside0 (impl_PolicyText.l0 kq x3_1 l0_0 (l0_0.length : Int) x16_1 = some r) ∧ Aside0 (kq ≤ k) ∧ Aside0 (w'.heap[gb317]? = some (.cells #[(.slice A0_0 l0_0.length c0_0)] 68 (0, 0))) ∧ Aside0 (Below w.heap.size w w'))
  case atStart => exact ⟨(t319), (0), (by first | rfl | (simp; done) | (simp [*]; done)), (by first | rfl | (simp; done) | (simp [*]; done)), H', ⟨Nat.le_refl _⟩, ⟨bk_ BK317⟩, ⟨bl_⟩⟩
  case round =>
   clear H'
   try clear c1
   try clear p2
   try clear c3
   try clear c4
   try clear c10
   try clear hcz10
   try clear hcz6
   try clear hcz8
   try clear hfz10
   try clear hfz6
   try clear hfz8
   obtain ⟨x3_1, x16_1, rfl, rfl, HA, HK1, BK317, HB⟩ := hrel
   cases gk with
   | zero => exact absurd HA.out (by simp [impl_PolicyText.l0])
   | succ k1 =>
    have H := HA.out
    clear HA
    simp only [impl_PolicyText.l0] at H
    by_cases c11 : x16_1 < (l0_0.length : Int)
    ·rw [if_pos c11] at H
     have c11b0 : decide (x16_1 < (l0_0.length : Int)) = true := decide_eq_true c11
     clear c11
     by_cases c12 : 0 ≤ x16_1
     ·rw [if_pos c12] at H
      have c12b0 : decide (0 ≤ x16_1) = true := decide_eq_true c12
      clear c12
      by_cases c13 : x16_1 < (l0_0.length : Int)
      ·rw [if_pos c13] at H
       have c13b0 : decide (x16_1 < (l0_0.length : Int)) = true := decide_eq_true c13
       clear c13
       obtain ⟨t322, A14, H⟩ := bindE_ H
       obtain ⟨t323, A15, H⟩ := bindE_ H
       by_cases c16 : t322.size + t323.size ≤ 9223372036854775807
       ·rw [if_pos c16] at H
        have c16b0 := eq_true c16
        have c16b1 : decide (t322.size + t323.size ≤ 9223372036854775807) = true := decide_eq_true c16
        try have c16b2 : (9223372036854775807 < t322.size + t323.size) = False := eq_false (Nat.not_lt.2 c16)
        obtain ⟨t324, A17, H⟩ := bindE_ H
        by_cases c18 : (t322 ++ t323).size + t324.size ≤ 9223372036854775807
        ·rw [if_pos c18] at H
         have c18b0 := eq_true c18
         have c18b1 : decide ((t322 ++ t323).size + t324.size ≤ 9223372036854775807) = true := decide_eq_true c18
         try have c18b2 : (9223372036854775807 < (t322 ++ t323).size + t324.size) = False := eq_false (Nat.not_lt.2 c18)
         (try (have c18b3 := c18b2; simp only [ByteArray.size_append] at c18b3)); (try (have c18b4 := c18b0; simp only [ByteArray.size_append] at c18b4))
         obtain ⟨t325, A19, H⟩ := bindE_ H
         by_cases c20 : ((t322 ++ t323) ++ t324).size + t325.size ≤ 9223372036854775807
         ·rw [if_pos c20] at H
          have c20b0 := eq_true c20
          have c20b1 : decide (((t322 ++ t323) ++ t324).size + t325.size ≤ 9223372036854775807) = true := decide_eq_true c20
          try have c20b2 : (9223372036854775807 < ((t322 ++ t323) ++ t324).size + t325.size) = False := eq_false (Nat.not_lt.2 c20)
          (try (have c20b3 := c20b2; simp only [ByteArray.size_append] at c20b3)); (try (have c20b4 := c20b0; simp only [ByteArray.size_append] at c20b4))
          obtain ⟨t326, A21, H⟩ := bindE_ H
          by_cases c22 : (((t322 ++ t323) ++ t324) ++ t325).size + t326.size ≤ 9223372036854775807
          ·rw [if_pos c22] at H
           have c22b0 := eq_true c22
           have c22b1 : decide ((((t322 ++ t323) ++ t324) ++ t325).size + t326.size ≤ 9223372036854775807) = true := decide_eq_true c22
           try have c22b2 : (9223372036854775807 < (((t322 ++ t323) ++ t324) ++ t325).size + t326.size) = False := eq_false (Nat.not_lt.2 c22)
           (try (have c22b3 := c22b2; simp only [ByteArray.size_append] at c22b3)); (try (have c22b4 := c22b0; simp only [ByteArray.size_append] at c22b4))
           by_cases c23 : x3_1.size + ((((t322 ++ t323) ++ t324) ++ t325) ++ t326).size ≤ 9223372036854775807
           ·rw [if_pos c23] at H
            have c23b0 := eq_true c23
            have c23b1 : decide (x3_1.size + ((((t322 ++ t323) ++ t324) ++ t325) ++ t326).size ≤ 9223372036854775807) = true := decide_eq_true c23
            try have c23b2 : (9223372036854775807 < x3_1.size + ((((t322 ++ t323) ++ t324) ++ t325) ++ t326).size) = False := eq_false (Nat.not_lt.2 c23)
            (try (have c23b3 := c23b2; simp only [ByteArray.size_append] at c23b3)); (try (have c23b4 := c23b0; simp only [ByteArray.size_append] at c23b4))
            have H' := Aside0.mk H
            clear H
            have p320 : 0 ≤ (x16_1 : Int) := of_decide_eq_true (by first | (with_reducible assumption) | assumption)
            have q320 : x16_1 < (l0_0.length : Int) := of_decide_eq_true (by first | (with_reducible assumption) | assumption)
            obtain ⟨ad320, e320, hx320_0, hx320_1, hx320_2, hx320_3, hx320_4⟩ := at_T71 (Kd.C_below HR0_0.out HB.out) x16_1 p320 q320
            cases e320
            replace p320 := eq_true p320
            replace q320 := eq_true q320
            try go_wp2_with (first | ((with_reducible refine gate_dst (N := 5) rfl ?_); refine box_event ?hg (N := 5) ?hd (cs := #[.int .i64 0, .int .i64 0, .int .i64 0, .int .i64 0, .int .i64 0]) (t := 71) ?hr ?_; (case hd => rfl); (case hg => rfl); (case hr => first | (go_simp; done) | (go_simp; rfl)); intro gb321 hg w24 hbox hb; have BK321 := Aside0.mk (hbox); have GW321 := gs_ hg; have GE321 := gs_ hg; replace HB := hbs_ hb; have NB317_321 := Aside0.mk ((by rw [hg]; exact Nat.ne_of_lt (blk_lt (g := gb317) (o := .cells #[.slice (some ad320) l0_0.length c0_0] 68 (0, 0)) (bk_ BK317)) : gb317 ≠ gb321)); have NB321_317 := Aside0.mk ((by rw [hg]; exact Nat.ne_of_gt (blk_lt (g := gb317) (o := .cells #[.slice (some ad320) l0_0.length c0_0] 68 (0, 0)) (bk_ BK317)) : gb321 ≠ gb317)); replace BK317 := bkb_ BK317 hb; clear hb hbox hg; have hnb25 := NB321_317.out; have hnc25 := NB317_321.out; have hcz26 := blk_cell BK321.out; have hfz26 := blk_frozen BK321.out))
            have n0_ : Aside0 ((((((w24.setCell ⟨gb321, 0, none⟩ (.int .i64 ((rd_T71 l0_0 x16_1).f0))).setCell ⟨gb321, 1, none⟩ (.int .i64 ((rd_T71 l0_0 x16_1).f1.f0))).setCell ⟨gb321, 2, none⟩ (.int .i64 ((rd_T71 l0_0 x16_1).f1.f1))).setCell ⟨gb321, 3, none⟩ (.int .i64 ((rd_T71 l0_0 x16_1).f2))).setCell ⟨gb321, 4, none⟩ (.int .i64 ((rd_T71 l0_0 x16_1).f3))).heap[gb317]? = some (.cells #[.slice (some ad320) l0_0.length c0_0] 68 (0, 0))) := ⟨bk_ BK317⟩
            have n1_ : Aside0 ((((((w24.setCell ⟨gb321, 0, none⟩ (.int .i64 ((rd_T71 l0_0 x16_1).f0))).setCell ⟨gb321, 1, none⟩ (.int .i64 ((rd_T71 l0_0 x16_1).f1.f0))).setCell ⟨gb321, 2, none⟩ (.int .i64 ((rd_T71 l0_0 x16_1).f1.f1))).setCell ⟨gb321, 3, none⟩ (.int .i64 ((rd_T71 l0_0 x16_1).f2))).setCell ⟨gb321, 4, none⟩ (.int .i64 ((rd_T71 l0_0 x16_1).f3))).heap[gb321]? = some (.cells #[.int .i64 ((rd_T71 l0_0 x16_1).f0), .int .i64 ((rd_T71 l0_0 x16_1).f1.f0), .int .i64 ((rd_T71 l0_0 x16_1).f1.f1), .int .i64 ((rd_T71 l0_0 x16_1).f2), .int .i64 ((rd_T71 l0_0 x16_1).f3)] 71 (0, 0))) := ⟨bk_ BK321⟩
            have n2_ : Aside0 (Below w.heap.size w (((((w24.setCell ⟨gb321, 0, none⟩ (.int .i64 ((rd_T71 l0_0 x16_1).f0))).setCell ⟨gb321, 1, none⟩ (.int .i64 ((rd_T71 l0_0 x16_1).f1.f0))).setCell ⟨gb321, 2, none⟩ (.int .i64 ((rd_T71 l0_0 x16_1).f1.f1))).setCell ⟨gb321, 3, none⟩ (.int .i64 ((rd_T71 l0_0 x16_1).f2))).setCell ⟨gb321, 4, none⟩ (.int .i64 ((rd_T71 l0_0 x16_1).f3)))) := ⟨bl_⟩
            (try clear BK317)
            (try clear BK321)
            (try clear HB)
            generalize (((((w24.setCell ⟨gb321, 0, none⟩ (.int .i64 ((rd_T71 l0_0 x16_1).f0))).setCell ⟨gb321, 1, none⟩ (.int .i64 ((rd_T71 l0_0 x16_1).f1.f0))).setCell ⟨gb321, 2, none⟩ (.int .i64 ((rd_T71 l0_0 x16_1).f1.f1))).setCell ⟨gb321, 3, none⟩ (.int .i64 ((rd_T71 l0_0 x16_1).f2))).setCell ⟨gb321, 4, none⟩ (.int .i64 ((rd_T71 l0_0 x16_1).f3))) = w27 at n0_ n1_ n2_ ⊢
            have BK317 := n0_
            have BK321 := n1_
            have HB := n2_
            clear n0_ n1_ n2_
            replace BK317 := Aside0.mk (blk_drew BK317.out)
            replace BK321 := Aside0.mk (blk_drew BK321.out)
            replace HB := Aside0.mk (below_drew1 HB.out)
            refine start_ (n := 24) (S := fun w' => w'.cell? ⟨gb321, 0, none⟩ = some (.int .i64 ((rd_T71 l0_0 x16_1).f0)) ∧ w'.cell? ⟨gb321, 1, none⟩ = some (.int .i64 ((rd_T71 l0_0 x16_1).f1.f0)) ∧ w'.cell? ⟨gb321, 2, none⟩ = some (.int .i64 ((rd_T71 l0_0 x16_1).f1.f1)) ∧ w'.cell? ⟨gb321, 3, none⟩ = some (.int .i64 ((rd_T71 l0_0 x16_1).f2)) ∧ w'.cell? ⟨gb321, 4, none⟩ = some (.int .i64 ((rd_T71 l0_0 x16_1).f3))) (ds := []) #[false, false, false, false, false, false, false, false, false, false, false, false, false, false, false, false, false, false, false, false, false, false, false, false] (by kernel_rfl) rfl rfl ⟨(blk_cell BK321.out 0).trans rfl, (blk_cell BK321.out 1).trans rfl, (blk_cell BK321.out 2).trans rfl, (blk_cell BK321.out 3).trans rfl, (blk_cell BK321.out 4).trans rfl⟩ (fun hHeld => ?_); refine with_tabW impl_PolicyText.tab7 impl_PolicyText.bits7 (fun HT_ HW_ => ?_)
            generalize w27.drew = w28 at BK317 BK321 HB hHeld ⊢
            refine pureZ_ (i := 0) (some 20) #[true, false, false, false, false, false, false, false, false, false, false, false, false, false, false, false, false, false, false, false, false, false, false, false] (any_of HT_.out (by kernel_rfl)) ?_
            refine pureZ_ (i := 1) (some 21) #[true, true, false, false, false, false, false, false, false, false, false, false, false, false, false, false, false, false, false, false, false, false, false, false] (any_of HT_.out (by kernel_rfl)) ?_
            refine pureZ_ (i := 4) (some 24) #[true, true, false, false, true, false, false, false, false, false, false, false, false, false, false, false, false, false, false, false, false, false, false, false] (any_of HT_.out (by kernel_rfl)) ?_
            refine pureZ_ (i := 5) (some 25) #[true, true, false, false, true, true, false, false, false, false, false, false, false, false, false, false, false, false, false, false, false, false, false, false] (any_of HT_.out (by kernel_rfl)) ?_
            refine pureZ_ (i := 9) (some 29) #[true, true, false, false, true, true, false, false, false, true, false, false, false, false, false, false, false, false, false, false, false, false, false, false] (any_of HT_.out (by kernel_rfl)) ?_
            refine pureZ_ (i := 10) (some 30) #[true, true, false, false, true, true, false, false, false, true, true, false, false, false, false, false, false, false, false, false, false, false, false, false] (any_of HT_.out (by kernel_rfl)) ?_
            refine pureZ_ (i := 14) (some 34) #[true, true, false, false, true, true, false, false, false, true, true, false, false, false, true, false, false, false, false, false, false, false, false, false] (any_of HT_.out (by kernel_rfl)) ?_
            refine pureZ_ (i := 18) (some 38) #[true, true, false, false, true, true, false, false, false, true, true, false, false, false, true, false, false, false, true, false, false, false, false, false] (any_of HT_.out (by kernel_rfl)) ?_
            refine takeZ_ (i := 2) (some 22) #[true, true, true, false, true, true, false, false, false, true, true, false, false, false, true, false, false, false, true, false, false, false, false, false] (take_ofW HT_.out HW_.out (by kernel_rfl)) hHeld ?_
            refine takeZ_ (i := 6) (some 26) #[true, true, true, false, true, true, true, false, false, true, true, false, false, false, true, false, false, false, true, false, false, false, false, false] (take_ofW HT_.out HW_.out (by kernel_rfl)) hHeld ?_
            refine takeZ_ (i := 11) (some 31) #[true, true, true, false, true, true, true, false, false, true, true, true, false, false, true, false, false, false, true, false, false, false, false, false] (take_ofW HT_.out HW_.out (by kernel_rfl)) hHeld ?_
            refine takeZ_ (i := 15) (some 35) #[true, true, true, false, true, true, true, false, false, true, true, true, false, false, true, true, false, false, true, false, false, false, false, false] (take_ofW HT_.out HW_.out (by kernel_rfl)) hHeld ?_
            refine takeZ_ (i := 19) (some 39) #[true, true, true, false, true, true, true, false, false, true, true, true, false, false, true, true, false, false, true, true, false, false, false, false] (take_ofW HT_.out HW_.out (by kernel_rfl)) hHeld ?_
            refine one_ (i := 3) (N := some 23) #[true, true, true, true, true, true, true, false, false, true, true, true, false, false, true, true, false, false, true, true, false, false, false, false] rfl rfl (one_of HT_.out (by kernel_rfl)) (by decide) (fun K hK => ?_)
            refine goes_ Try.func100 (by kernel_rfl) rfl #[.int .i64 ((rd_T71 l0_0 x16_1).f0)] (by rfl) rfl rfl (by (try simp only [List.map_toArray, List.map_cons, List.map_nil]); first | done | rfl | (simp only [List.length_drop, List.length_take]; rfl)) ?_
            with_reducible refine (impl_varText.calls k1 ((rd_T71 l0_0 x16_1).f0) t322 _ A14.out).mono ?_
            rintro e w29 ⟨rfl, hb⟩
            refine ⟨_, rfl, ?_⟩
            replace BK317 := bkb_ BK317 hb
            replace BK321 := bkb_ BK321 hb
            replace HB := hbs_ hb
            (try clear hb)
            (try clear hb2)
            (try clear hk)
            (try clear hi)
            refine hK.out _ _ ⟨(blk_cell BK321.out 0).trans rfl, (blk_cell BK321.out 1).trans rfl, (blk_cell BK321.out 2).trans rfl, (blk_cell BK321.out 3).trans rfl, (blk_cell BK321.out 4).trans rfl⟩ (fun hHeld => ?_)
            clear hK K
            refine norm_ (a' := ?_) ?_ ?_
            rotate_left
            ·show Act.put _ (some 23) _ = _
             simp only [Act.put, List.setIfInBounds_toArray, List.set_cons_zero, List.set_cons_succ, i64_w, i32_w]
             rfl
            refine one_ (i := 7) (N := some 27) #[true, true, true, true, true, true, true, true, false, true, true, true, false, false, true, true, false, false, true, true, false, false, false, false] rfl rfl (one_of HT_.out (by kernel_rfl)) (by decide) (fun K hK => ?_)
            refine goes_ Try.func100 (by kernel_rfl) rfl #[.int .i64 ((rd_T71 l0_0 x16_1).f1.f0)] (by rfl) rfl rfl (by (try simp only [List.map_toArray, List.map_cons, List.map_nil]); first | done | rfl | (simp only [List.length_drop, List.length_take]; rfl)) ?_
            with_reducible refine (impl_varText.calls k1 ((rd_T71 l0_0 x16_1).f1.f0) t323 _ A15.out).mono ?_
            rintro e w30 ⟨rfl, hb⟩
            refine ⟨_, rfl, ?_⟩
            replace BK317 := bkb_ BK317 hb
            replace BK321 := bkb_ BK321 hb
            replace HB := hbs_ hb
            (try clear hb)
            (try clear hb2)
            (try clear hk)
            (try clear hi)
            refine hK.out _ _ ⟨(blk_cell BK321.out 0).trans rfl, (blk_cell BK321.out 1).trans rfl, (blk_cell BK321.out 2).trans rfl, (blk_cell BK321.out 3).trans rfl, (blk_cell BK321.out 4).trans rfl⟩ (fun hHeld => ?_)
            clear hK K
            refine norm_ (a' := ?_) ?_ ?_
            rotate_left
            ·show Act.put _ (some 27) _ = _
             simp only [Act.put, List.setIfInBounds_toArray, List.set_cons_zero, List.set_cons_succ, i64_w, i32_w]
             rfl
            refine pureZ_ (i := 8) (some 28) #[true, true, true, true, true, true, true, true, true, true, true, true, false, false, true, true, false, false, true, true, false, false, false, false] (any_of HT_.out (by kernel_rfl)) ?_
            refine one_ (i := 12) (N := some 32) #[true, true, true, true, true, true, true, true, true, true, true, true, true, false, true, true, false, false, true, true, false, false, false, false] rfl rfl (one_of HT_.out (by kernel_rfl)) (by decide) (fun K hK => ?_)
            refine goes_ Try.func100 (by kernel_rfl) rfl #[.int .i64 ((rd_T71 l0_0 x16_1).f1.f1)] (by rfl) rfl rfl (by (try simp only [List.map_toArray, List.map_cons, List.map_nil]); first | done | rfl | (simp only [List.length_drop, List.length_take]; rfl)) ?_
            with_reducible refine (impl_varText.calls k1 ((rd_T71 l0_0 x16_1).f1.f1) t324 _ A17.out).mono ?_
            rintro e w31 ⟨rfl, hb⟩
            refine ⟨_, rfl, ?_⟩
            replace BK317 := bkb_ BK317 hb
            replace BK321 := bkb_ BK321 hb
            replace HB := hbs_ hb
            (try clear hb)
            (try clear hb2)
            (try clear hk)
            (try clear hi)
            refine hK.out _ _ ⟨(blk_cell BK321.out 0).trans rfl, (blk_cell BK321.out 1).trans rfl, (blk_cell BK321.out 2).trans rfl, (blk_cell BK321.out 3).trans rfl, (blk_cell BK321.out 4).trans rfl⟩ (fun hHeld => ?_)
            clear hK K
            refine norm_ (a' := ?_) ?_ ?_
            rotate_left
            ·show Act.put _ (some 32) _ = _
             simp only [Act.put, List.setIfInBounds_toArray, List.set_cons_zero, List.set_cons_succ, i64_w, i32_w]
             rfl
            refine pureZ_ (i := 13) (some 33) #[true, true, true, true, true, true, true, true, true, true, true, true, true, true, true, true, false, false, true, true, false, false, false, false] (any_of HT_.out (by kernel_rfl)) ?_
            refine one_ (i := 16) (N := some 36) #[true, true, true, true, true, true, true, true, true, true, true, true, true, true, true, true, true, false, true, true, false, false, false, false] rfl rfl (one_of HT_.out (by kernel_rfl)) (by decide) (fun K hK => ?_)
            refine goes_ Try.func100 (by kernel_rfl) rfl #[.int .i64 ((rd_T71 l0_0 x16_1).f2)] (by rfl) rfl rfl (by (try simp only [List.map_toArray, List.map_cons, List.map_nil]); first | done | rfl | (simp only [List.length_drop, List.length_take]; rfl)) ?_
            with_reducible refine (impl_varText.calls k1 ((rd_T71 l0_0 x16_1).f2) t325 _ A19.out).mono ?_
            rintro e w32 ⟨rfl, hb⟩
            refine ⟨_, rfl, ?_⟩
            replace BK317 := bkb_ BK317 hb
            replace BK321 := bkb_ BK321 hb
            replace HB := hbs_ hb
            (try clear hb)
            (try clear hb2)
            (try clear hk)
            (try clear hi)
            refine hK.out _ _ ⟨(blk_cell BK321.out 0).trans rfl, (blk_cell BK321.out 1).trans rfl, (blk_cell BK321.out 2).trans rfl, (blk_cell BK321.out 3).trans rfl, (blk_cell BK321.out 4).trans rfl⟩ (fun hHeld => ?_)
            clear hK K
            refine norm_ (a' := ?_) ?_ ?_
            rotate_left
            ·show Act.put _ (some 36) _ = _
             simp only [Act.put, List.setIfInBounds_toArray, List.set_cons_zero, List.set_cons_succ, i64_w, i32_w]
             rfl
            refine pureZ_ (i := 17) (some 37) #[true, true, true, true, true, true, true, true, true, true, true, true, true, true, true, true, true, true, true, true, false, false, false, false] (any_of HT_.out (by kernel_rfl)) ?_
            refine one_ (i := 20) (N := some 40) #[true, true, true, true, true, true, true, true, true, true, true, true, true, true, true, true, true, true, true, true, true, false, false, false] rfl rfl (one_of HT_.out (by kernel_rfl)) (by decide) (fun K hK => ?_)
            refine goes_ Try.func100 (by kernel_rfl) rfl #[.int .i64 ((rd_T71 l0_0 x16_1).f3)] (by rfl) rfl rfl (by (try simp only [List.map_toArray, List.map_cons, List.map_nil]); first | done | rfl | (simp only [List.length_drop, List.length_take]; rfl)) ?_
            with_reducible refine (impl_varText.calls k1 ((rd_T71 l0_0 x16_1).f3) t326 _ A21.out).mono ?_
            rintro e w33 ⟨rfl, hb⟩
            refine ⟨_, rfl, ?_⟩
            replace BK317 := bkb_ BK317 hb
            replace BK321 := bkb_ BK321 hb
            replace HB := hbs_ hb
            (try clear hb)
            (try clear hb2)
            (try clear hk)
            (try clear hi)
            refine hK.out _ _ ⟨(blk_cell BK321.out 0).trans rfl, (blk_cell BK321.out 1).trans rfl, (blk_cell BK321.out 2).trans rfl, (blk_cell BK321.out 3).trans rfl, (blk_cell BK321.out 4).trans rfl⟩ (fun hHeld => ?_)
            clear hK K
            refine norm_ (a' := ?_) ?_ ?_
            rotate_left
            ·show Act.put _ (some 40) _ = _
             simp only [Act.put, List.setIfInBounds_toArray, List.set_cons_zero, List.set_cons_succ, i64_w, i32_w]
             rfl
            refine pureZ_ (i := 21) (some 41) #[true, true, true, true, true, true, true, true, true, true, true, true, true, true, true, true, true, true, true, true, true, true, false, false] (any_of HT_.out (by kernel_rfl)) ?_
            refine pureZ_ (i := 22) (some 42) #[true, true, true, true, true, true, true, true, true, true, true, true, true, true, true, true, true, true, true, true, true, true, true, false] (any_of HT_.out (by kernel_rfl)) ?_
            refine pureZ_ (i := 23) (some 3) #[true, true, true, true, true, true, true, true, true, true, true, true, true, true, true, true, true, true, true, true, true, true, true, true] (any_of HT_.out (by kernel_rfl)) ?_
            refine done_ (done_of HT_.out (by kernel_rfl)) ?_
            try go_wp2
            go_roundg k1
            case measure => have := HK1.out; omega
            case rel => exact ⟨(x3_1 ++ ((((t322 ++ t323) ++ t324) ++ t325) ++ t326)), (wrap64 (x16_1 + 1)), (by first | rfl | (simp; done) | (simp [*]; done)), (by first | rfl | (simp; done) | (simp [*]; done)), H', ⟨by have := HK1.out; omega⟩, ⟨bk_ BK317⟩, ⟨bl_⟩⟩
           ·rw [if_neg c23] at H
            exact absurd H (by simp)
          ·rw [if_neg c22] at H
           exact absurd H (by simp)
         ·rw [if_neg c20] at H
          exact absurd H (by simp)
        ·rw [if_neg c18] at H
         exact absurd H (by simp)
       ·rw [if_neg c16] at H
        exact absurd H (by simp)
      ·rw [if_neg c13] at H
       exact absurd H (by simp)
     ·rw [if_neg c12] at H
      exact absurd H (by simp)
    ·rw [if_neg c11] at H
     have c11b0 : decide (x16_1 < (l0_0.length : Int)) = false := decide_eq_false c11
     clear c11
     obtain rfl := Option.some.inj H
     go_wp2
     go_ret
     exact ⟨eq_, bl_⟩
 ·replace c3 := Bool.eq_false_iff.mpr c3
  subst c3
  replace H := ite_f_ H
  obtain rfl := Option.some.inj H
  go_enter Try.func45, Try.ntmps45
  go_wp2_with (first | ((with_reducible refine gate_dst (N := 1) rfl ?_); refine box_event ?hg (N := 1) ?hd (cs := #[.slice A0_0 l0_0.length c0_0]) (t := 68) ?hr ?_; (case hd => rfl); (case hg => rfl); (case hr => first | (go_simp; done) | (go_simp; rfl)); intro gb317 hg w34 hbox hb; have BK317 := Aside0.mk (hbox); have GW317 := gs_ hg; have GE317 := gs_ hg; replace HB := hbs_ hb; clear hb hbox hg; have hcz35 := blk_cell BK317.out; have hfz35 := blk_frozen BK317.out) | ((with_reducible refine gate_callee (f := 49) rfl ?_); refine goesC_ (some 7) Try.func49 #[.agg #[.slice A0_0 l0_0.length c0_0]] ?_; (with_reducible refine (impl_PolicyOk.calls k _ _ l0_0 false _ ?side1 ?side2 A2.out).mono ?_); (case side1 => repeat (first | exact (Kd.C_below HR0_0.out HB.out) | (with_reducible refine Kd.C_alloc ?_ _) | (with_reducible refine Kd.C_drewN ?_ _) | (with_reducible refine Kd.C_drew ?_))); (case side2 => exact HC0_0.out); rintro e w36 ⟨rfl, hb⟩; refine ⟨_, rfl, ?_⟩; replace BK317 := bkb_ BK317 hb; replace HB := hbs_ hb; clear hb))
  go_ret
  exact ⟨eq_, bl_⟩
def impl_Role_122.l0 : Nat → List (S27) → Int → Int → Int → Int → Option (Int)
 | 0, _, _, _, _, _ => none
 | k + 1, x0, x7, x8, x328000, x328001 => if x8 < x7 then (if 0 ≤ x8 then (if x8 < (x0.length : Int) then (if (x328000 == ((rd_T27 x0 x8).f0) && (x328001 == ((rd_T27 x0 x8).f1))) = true then (some x8) else (impl_Role_122.l0 k x0 x7 (wrap64 (x8 + 1)) x328000 x328001)) else (none)) else (none)) else (some (-1))
def impl_Role_122.f (k : Nat) (l0 : List (S27)) (a1_0 : Int) (a1_1 : Int) : Option (Int) := impl_Role_122.l0 k l0 (l0.length : Int) 0 a1_0 a1_1
set_option maxHeartbeats 8000000 in
set_option maxRecDepth 100000 in
theorem impl_Role_122.calls (k : Nat) (A0 : Option Addr) (c0 : Nat) (l0 : List (S27)) (a1_0 : Int) (a1_1 : Int) (r : Int) (w : World) (hr0 : Kd.C k27 w A0 l0.length l0) (hc0 : l0.length ≤ c0) (h : impl_Role_122.f k l0 a1_0 a1_1 = some r) :
  Calls Try.prog 122 #[.slice A0 l0.length c0, .agg #[.int .i64 a1_0, .int .i64 a1_1]] w fun e w' => e = .returned (.int .i64 r) ∧ Below w.heap.size w w' := by
 have hu27 := Try.underlying27
 have HR0 := Aside0.mk hr0
 have HC0 := Aside0.mk hc0
 clear hr0 hc0
 have HB := Aside0.mk (Below.refl w.heap.size w)
 have H : (impl_Role_122.l0 k l0 (l0.length : Int) 0 a1_0 a1_1) = some r := h
 clear h
 have H' := Aside0.mk H
 clear H
 go_enter Try.func122, Try.ntmps122
 go_wp2_with (first | ((with_reducible refine gate_dst (N := 3) rfl ?_); refine box_event ?hg (N := 3) ?hd (cs := #[.int .i64 a1_0, .int .i64 a1_1]) (t := 27) ?hr ?_; (case hd => rfl); (case hg => rfl); (case hr => first | (go_simp; done) | (go_simp; rfl)); intro gb327 hg w3 hbox hb; have BK327 := Aside0.mk (hbox); have GW327 := gs_ hg; have GE327 := gs_ hg; replace HB := hbs_ hb; clear hb hbox hg))
 repeat (go_quiet (first | ((with_reducible refine gate_dst (N := 3) rfl ?_); refine box_event ?hg (N := 3) ?hd (cs := #[.int .i64 a1_0, .int .i64 a1_1]) (t := 27) ?hr ?_; (case hd => rfl); (case hg => rfl); (case hr => first | (go_simp; done) | (go_simp; rfl)); intro gb327 hg w3 hbox hb; have BK327 := Aside0.mk (hbox); have GW327 := gs_ hg; have GE327 := gs_ hg; replace HB := hbs_ hb; clear hb hbox hg)); try go_wp2_with (first | ((with_reducible refine gate_dst (N := 3) rfl ?_); refine box_event ?hg (N := 3) ?hd (cs := #[.int .i64 a1_0, .int .i64 a1_1]) (t := 27) ?hr ?_; (case hd => rfl); (case hg => rfl); (case hr => first | (go_simp; done) | (go_simp; rfl)); intro gb327 hg w3 hbox hb; have BK327 := Aside0.mk (hbox); have GW327 := gs_ hg; have GE327 := gs_ hg; replace HB := hbs_ hb; clear hb hbox hg)))
 go_loopg [8] k (fun kq v8 w' => ∃ (x8_1 : Int), v8 = .int .i64 x8_1 ∧ Aside0 (impl_Role_122.l0 kq l0 (l0.length : Int) x8_1 a1_0 a1_1 = some r) ∧ Aside0 (kq ≤ k) ∧ Aside0 (w'.heap[gb327]? = some (.cells #[.int .i64 a1_0, .int .i64 a1_1] 27 (0, 0))) ∧ Aside0 (Below w.heap.size w w'))
 case atStart => exact ⟨(0), (by first | rfl | (simp; done) | (simp [*]; done)), H', ⟨Nat.le_refl _⟩, ⟨bk_ BK327⟩, ⟨bl_⟩⟩
 case round =>
  clear H'
  try clear c1
  try clear p2
  obtain ⟨x8_1, rfl, HA, HK1, BK327, HB⟩ := hrel
  cases gk with
  | zero => exact absurd HA.out (by simp [impl_Role_122.l0])
  | succ k1 =>
   have H := HA.out
   clear HA
   simp only [impl_Role_122.l0] at H
   by_cases c4 : x8_1 < (l0.length : Int)
   ·rw [if_pos c4] at H
    have c4b0 : decide (x8_1 < (l0.length : Int)) = true := decide_eq_true c4
    clear c4
    by_cases c5 : 0 ≤ x8_1
    ·rw [if_pos c5] at H
     have c5b0 : decide (0 ≤ x8_1) = true := decide_eq_true c5
     clear c5
     by_cases c6 : x8_1 < (l0.length : Int)
     ·rw [if_pos c6] at H
      have c6b0 : decide (x8_1 < (l0.length : Int)) = true := decide_eq_true c6
      clear c6
      by_cases c7 : (a1_0 == ((rd_T27 l0 x8_1).f0) && (a1_1 == ((rd_T27 l0 x8_1).f1))) = true
      ·rw [if_pos c7] at H
       have c7b0 : (a1_0 == ((rd_T27 l0 x8_1).f0) && (a1_1 == ((rd_T27 l0 x8_1).f1))) = true := c7
       (try (have c7b1 : decide (a1_0 = ((rd_T27 l0 x8_1).f0) && (a1_1 == ((rd_T27 l0 x8_1).f1))) = true := by simpa using c7))
       (try (have c7b2 : (a1_0 == ((rd_T27 l0 x8_1).f0) && (a1_1 == ((rd_T27 l0 x8_1).f1))) = true := by simpa using c7))
       clear c7
       obtain rfl := Option.some.inj H
       have hcz8 := blk_cell BK327.out
       have hfz8 := blk_frozen BK327.out
       have p328 : 0 ≤ (x8_1 : Int) := of_decide_eq_true (by first | (with_reducible assumption) | assumption)
       have q328 : x8_1 < (l0.length : Int) := of_decide_eq_true (by first | (with_reducible assumption) | assumption)
       obtain ⟨ad328, e328, hx328_0, hx328_1⟩ := at_T27 (Kd.C_below HR0.out HB.out) x8_1 p328 q328
       cases e328
       replace p328 := eq_true p328
       replace q328 := eq_true q328
       go_wp2
       repeat (go_quiet (fail); try go_wp2)
       go_ret
       exact ⟨eq_, bl_⟩
      ·rw [if_neg c7] at H
       have c7b0 : (a1_0 == ((rd_T27 l0 x8_1).f0) && (a1_1 == ((rd_T27 l0 x8_1).f1))) = false := by simpa using c7
       (try (have c7b1 : decide (a1_0 = ((rd_T27 l0 x8_1).f0) && (a1_1 == ((rd_T27 l0 x8_1).f1))) = false := by simpa using c7))
       (try (have c7b2 : (a1_0 == ((rd_T27 l0 x8_1).f0) && (a1_1 == ((rd_T27 l0 x8_1).f1))) = false := by simpa using c7))
       (try (have c7b3 : ¬ (a1_0 = ((rd_T27 l0 x8_1).f0) && (a1_1 == ((rd_T27 l0 x8_1).f1))) := by simpa using c7))
       clear c7
       have H' := Aside0.mk H
       clear H
       have hcz9 := blk_cell BK327.out
       have hfz9 := blk_frozen BK327.out
       have p328 : 0 ≤ (x8_1 : Int) := of_decide_eq_true (by first | (with_reducible assumption) | assumption)
       have q328 : x8_1 < (l0.length : Int) := of_decide_eq_true (by first | (with_reducible assumption) | assumption)
       obtain ⟨ad328, e328, hx328_0, hx328_1⟩ := at_T27 (Kd.C_below HR0.out HB.out) x8_1 p328 q328
       cases e328
       replace p328 := eq_true p328
       replace q328 := eq_true q328
       go_wp2
       repeat (go_quiet (fail); try go_wp2)
       go_roundg k1
       case measure => have := HK1.out; omega
       case rel => exact ⟨(wrap64 (x8_1 + 1)), (by first | rfl | (simp; done) | (simp [*]; done)), H', ⟨by have := HK1.out; omega⟩, ⟨bk_ BK327⟩, ⟨bl_⟩⟩
     ·rw [if_neg c6] at H
      exact absurd H (by simp)
    ·rw [if_neg c5] at H
     exact absurd H (by simp)
   ·rw [if_neg c4] at H
    have c4b0 : decide (x8_1 < (l0.length : Int)) = false := decide_eq_false c4
    clear c4
    obtain rfl := Option.some.inj H
    go_wp2
    repeat (go_quiet (fail); try go_wp2)
    go_ret
    exact ⟨eq_, bl_⟩
def impl_Role_76.f (k : Nat) (l0 : List (S27)) (a1_0 : Int) (a1_1 : Int) : Option (Bool) := (impl_Role_122.f k l0 a1_0 a1_1).bind fun t330 => (some (decide (t330 ≥ 0)))
set_option maxHeartbeats 8000000 in
set_option maxRecDepth 100000 in
theorem impl_Role_76.calls (k : Nat) (A0 : Option Addr) (c0 : Nat) (l0 : List (S27)) (a1_0 : Int) (a1_1 : Int) (r : Bool) (w : World) (hr0 : Kd.C k27 w A0 l0.length l0) (hc0 : l0.length ≤ c0) (h : impl_Role_76.f k l0 a1_0 a1_1 = some r) :
  Calls Try.prog 76 #[.slice A0 l0.length c0, .agg #[.int .i64 a1_0, .int .i64 a1_1]] w fun e w' => e = .returned (.bool r) ∧ Below w.heap.size w w' := by
 have hu27 := Try.underlying27
 have HR0 := Aside0.mk hr0
 have HC0 := Aside0.mk hc0
 clear hr0 hc0
 have HB := Aside0.mk (Below.refl w.heap.size w)
 have H : ((impl_Role_122.f k l0 a1_0 a1_1).bind fun t330 => (some (decide (t330 ≥ 0)))) = some r := h
 clear h
 obtain ⟨t330, A3, H⟩ := bindE_ H
 obtain rfl := Option.some.inj H
 go_enter Try.func76, Try.ntmps76
 go_wp2_with (first | ((with_reducible refine gate_dst (N := 3) rfl ?_); refine box_event ?hg (N := 3) ?hd (cs := #[.int .i64 a1_0, .int .i64 a1_1]) (t := 27) ?hr ?_; (case hd => rfl); (case hg => rfl); (case hr => first | (go_simp; done) | (go_simp; rfl)); intro gb329 hg w4 hbox hb; have BK329 := Aside0.mk (hbox); have GW329 := gs_ hg; have GE329 := gs_ hg; replace HB := hbs_ hb; clear hb hbox hg; have hcz5 := blk_cell BK329.out; have hfz5 := blk_frozen BK329.out) | ((with_reducible refine gate_callee (f := 122) rfl ?_); refine goesC_ (some 7) Try.func122 #[.slice A0 l0.length c0, .agg #[.int .i64 a1_0, .int .i64 a1_1]] ?_; (with_reducible refine (impl_Role_122.calls k _ _ l0 a1_0 a1_1 t330 _ ?side1 ?side2 A3.out).mono ?_); (case side1 => repeat (first | exact (Kd.C_below HR0.out HB.out) | (with_reducible refine Kd.C_alloc ?_ _) | (with_reducible refine Kd.C_drewN ?_ _) | (with_reducible refine Kd.C_drew ?_))); (case side2 => exact HC0.out); rintro e w6 ⟨rfl, hb⟩; refine ⟨_, rfl, ?_⟩; replace BK329 := bkb_ BK329 hb; replace HB := hbs_ hb; clear hb))
 go_ret
 exact ⟨eq_, bl_⟩
end Go.Proofs.Ytppdmcimddhbaaa.PE
