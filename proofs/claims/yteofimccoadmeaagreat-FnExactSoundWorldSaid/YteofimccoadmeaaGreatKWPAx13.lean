import Derived.Shelf.Abstract
import Derived.Test.YteofimccoadmeaaGreatKWFd
import Derived.Test.YteofimccoadmeaaGreatKWPAx12
-- printed by wip/tools
namespace Go.Proofs.YteofimccoadmeaaGreat.PA
open Go.RowKit Go.Proofs.YteofimccoadmeaaGreatW.PrintWords Go.Proofs.YteofimccoadmeaaGreatW.PrintLast Go.Proofs.YteofimccoadmeaaGreatW.PrintMore
attribute [local go_sem] max2_int min2_int max_two min_two max_three min_three max_four min_four
set_option linter.unusedVariables false
set_option linter.unusedSimpArgs false
def laws_toWorld.f (k : Nat) (l0_0 : List (S104)) (a0_1 : Int) (l0_2 : List Int) (l0_3 : List (S88)) (l0_4 : List (S88)) (l0_5 : List (S64)) (l0_6 : List (S92)) (l0_7 : List Int) : Option ((List (S68)) × Int × List Int × (List (S83)) × (List (S83)) × (List (S73)) × (List (S79)) × List Int) := (laws_toRing.f k l0_0).bind fun t423 => ((laws_toIntS.f k l0_2).bind fun t426 => ((laws_toCredS.f k l0_3).bind fun t429 => ((laws_toCredS.f k l0_4).bind fun t432 => ((laws_toAnswerS.f k l0_5).bind fun t435 => ((laws_toFactS.f k l0_6).bind fun t438 => ((laws_toIntS.f k l0_7).bind fun t441 => (some (t423, a0_1, t426, t429, t432, t435, t438, t441))))))))
set_option maxHeartbeats 8000000 in
set_option maxRecDepth 100000 in
theorem laws_toWorld.calls (k : Nat) (A0_0 : Option Addr) (c0_0 : Nat) (l0_0 : List (S104)) (a0_1 : Int) (A0_2 : Option Addr) (c0_2 : Nat) (l0_2 : List Int) (A0_3 : Option Addr) (c0_3 : Nat) (l0_3 : List (S88)) (A0_4 : Option Addr) (c0_4 : Nat) (l0_4 : List (S88)) (A0_5 : Option Addr) (c0_5 : Nat) (l0_5 : List (S64)) (A0_6 : Option Addr) (c0_6 : Nat) (l0_6 : List (S92)) (A0_7 : Option Addr) (c0_7 : Nat) (l0_7 : List Int) (r1 : List (S68)) (r2 : Int) (r3 : List Int) (r4 : List (S83)) (r5 : List (S83)) (r6 : List (S73)) (r7 : List (S79)) (r8 : List Int) (w : World) (hr0_0 : Kd.C k104 w A0_0 l0_0.length l0_0) (hc0_0 : l0_0.length ≤ c0_0) (hr0_2 : Kd.C (Kd.int .i64) w A0_2 l0_2.length l0_2) (hc0_2 : l0_2.length ≤ c0_2) (hr0_3 : Kd.C k88 w A0_3 l0_3.length l0_3) (hc0_3 : l0_3.length ≤ c0_3) (hr0_4 : Kd.C k88 w A0_4 l0_4.length l0_4) (hc0_4 : l0_4.length ≤ c0_4) (hr0_5 : Kd.C k64 w A0_5 l0_5.length l0_5) (hc0_5 : l0_5.length ≤ c0_5) (hr0_6 : Kd.C k92 w A0_6 l0_6.length l0_6) (hc0_6 : l0_6.length ≤ c0_6) (hr0_7 : Kd.C (Kd.int .i64) w A0_7 l0_7.length l0_7) (hc0_7 : l0_7.length ≤ c0_7) (h : laws_toWorld.f k l0_0 a0_1 l0_2 l0_3 l0_4 l0_5 l0_6 l0_7 = some (r1, r2, r3, r4, r5, r6, r7, r8)) :
  Calls Tryz.prog 6 #[.agg #[.slice A0_0 l0_0.length c0_0, .int .i64 a0_1, .slice A0_2 l0_2.length c0_2, .slice A0_3 l0_3.length c0_3, .slice A0_4 l0_4.length c0_4, .slice A0_5 l0_5.length c0_5, .slice A0_6 l0_6.length c0_6, .slice A0_7 l0_7.length c0_7]] w fun e w' => ∃ v0_ v2_ v3_ v4_ v5_ v6_ v7_ : Value, e = .returned (.agg #[v0_, .int .i64 r2, v2_, v3_, v4_, v5_, v6_, v7_]) ∧ Kd.R k68 68 w' w.heap.size (fun k_ => some k_ ≠ (v2_ : Value).ownBlock ∧ some k_ ≠ (v7_ : Value).ownBlock) v0_ r1 ∧ Kd.R (Kd.int .i64) 3 w' w.heap.size (fun k_ => some k_ ≠ (v7_ : Value).ownBlock) v2_ r3 ∧ Kd.R k83 83 w' w.heap.size (fun k_ => some k_ ≠ (v4_ : Value).ownBlock) v3_ r4 ∧ Kd.R k83 83 w' w.heap.size (fun k_ => some k_ ≠ (v3_ : Value).ownBlock) v4_ r5 ∧ Kd.R k73 73 w' w.heap.size (fun k_ => some k_ ≠ (v2_ : Value).ownBlock ∧ some k_ ≠ (v7_ : Value).ownBlock) v5_ r6 ∧ Kd.R k79 79 w' w.heap.size (fun _ => True) v6_ r7 ∧ Kd.R (Kd.int .i64) 3 w' w.heap.size (fun k_ => some k_ ≠ (v2_ : Value).ownBlock) v7_ r8 ∧ Below w.heap.size w w' := by
 have hu30 := Tryz.underlying30
 have hu40 := Tryz.underlying40
 have hu24 := Tryz.underlying24
 have hu35 := Tryz.underlying35
 have HR0_0 := aa_ hr0_0
 have HC0_0 := aa_ hc0_0
 clear hr0_0 hc0_0
 have HR0_2 := aa_ hr0_2
 have HC0_2 := aa_ hc0_2
 clear hr0_2 hc0_2
 have HR0_3 := aa_ hr0_3
 have HC0_3 := aa_ hc0_3
 clear hr0_3 hc0_3
 have HR0_4 := aa_ hr0_4
 have HC0_4 := aa_ hc0_4
 clear hr0_4 hc0_4
 have HR0_5 := aa_ hr0_5
 have HC0_5 := aa_ hc0_5
 clear hr0_5 hc0_5
 have HR0_6 := aa_ hr0_6
 have HC0_6 := aa_ hc0_6
 clear hr0_6 hc0_6
 have HR0_7 := aa_ hr0_7
 have HC0_7 := aa_ hc0_7
 clear hr0_7 hc0_7
 have HB := aa_ (Below.refl w.heap.size w)
 have H : ((laws_toRing.f k l0_0).bind fun t423 => ((laws_toIntS.f k l0_2).bind fun t426 => ((laws_toCredS.f k l0_3).bind fun t429 => ((laws_toCredS.f k l0_4).bind fun t432 => ((laws_toAnswerS.f k l0_5).bind fun t435 => ((laws_toFactS.f k l0_6).bind fun t438 => ((laws_toIntS.f k l0_7).bind fun t441 => (some (t423, a0_1, t426, t429, t432, t435, t438, t441))))))))) = some (r1, r2, r3, r4, r5, r6, r7, r8) := h
 clear h
 obtain ⟨t423, A2, H⟩ := bindE_ H
 obtain ⟨t426, A3, H⟩ := bindE_ H
 obtain ⟨t429, A4, H⟩ := bindE_ H
 obtain ⟨t432, A5, H⟩ := bindE_ H
 obtain ⟨t435, A6, H⟩ := bindE_ H
 obtain ⟨t438, A7, H⟩ := bindE_ H
 obtain ⟨t441, A8, H⟩ := bindE_ H
 simp only [Option.some.injEq, Prod.mk.injEq] at H
 obtain ⟨rfl, rfl, rfl, rfl, rfl, rfl, rfl, rfl⟩ := H
 go_enter Tryz.func6, Tryz.ntmps6
 go_wp2_with (first | ((with_reducible refine gD_ 1 rfl ?_); refine bx_ (N := 1) (cs := #[.slice A0_0 l0_0.length c0_0, .int .i64 a0_1, .slice A0_2 l0_2.length c0_2, .slice A0_3 l0_3.length c0_3, .slice A0_4 l0_4.length c0_4, .slice A0_5 l0_5.length c0_5, .slice A0_6 l0_6.length c0_6, .slice A0_7 l0_7.length c0_7]) (t := 30) ?_; intro gb420 hg w9 hbox hb; have BK420 := aa_ (hbox); have GW420 := gs_ hg; have GE420 := gs_ hg; replace HB := hbs_ hb; clear hb hbox hg) | ((with_reducible refine gD_ 2 rfl ?_); refine bx_ (N := 2) (cs := #[.slice none 0 0, .int .i64 0, .slice none 0 0, .slice none 0 0, .slice none 0 0, .slice none 0 0, .slice none 0 0, .slice none 0 0]) (t := 40) ?_; intro gb421 hg w10 hbox hb; have BK421 := aa_ (hbox); have GW421 := gs_ hg; have GE421 := gs_ hg; replace HB := hbs_ hb; have NB420_421 := nl_ hg BK420; have NB421_420 := nr_ hg BK420; replace BK420 := bkb_ BK420 hb; clear hb hbox hg) | ((with_reducible refine gD_ 3 rfl ?_); refine bx_ (N := 3) (cs := #[.slice none 0 0, .int .i64 0, .slice none 0 0, .slice none 0 0, .slice none 0 0, .slice none 0 0, .slice none 0 0, .slice none 0 0]) (t := 40) ?_; intro gb422 hg w11 hbox hb; have BK422 := aa_ (hbox); have GW422 := gs_ hg; have GE422 := gs_ hg; replace HB := hbs_ hb; have NB420_422 := nl_ hg BK420; have NB422_420 := nr_ hg BK420; replace BK420 := bkb_ BK420 hb; have NB421_422 := nl_ hg BK421; have NB422_421 := nr_ hg BK421; replace BK421 := bkb_ BK421 hb; clear hb hbox hg; have hnb12 := NB420_421.out; have hnc12 := NB421_420.out; have hnb13 := NB420_422.out; have hnc13 := NB422_420.out; obtain ⟨hcz14, hfz14⟩ := bcf_ BK420) | ((with_reducible refine gC_ 16 rfl ?_); refine goesC_ (some 6) Tryz.func16 #[.agg #[.slice A0_0 l0_0.length c0_0]] ?_; (with_reducible refine (laws_toRing.calls k _ _ l0_0 t423 _ ?side1 ?side2 A2.out).mono ?_); (case side1 => repeat (first | exact (Kd.C_below HR0_0.out HB.out) | (with_reducible refine Kd.C_alloc ?_ _) | (with_reducible refine Kd.C_drewN ?_ _) | (with_reducible refine Kd.C_drew ?_))); (case side2 => exact HC0_0.out); rintro e w15 ⟨v424, rfl, ho0, hb⟩; refine ⟨_, rfl, ?_⟩; have HO425 := aa_ (Kd.R_lower ho0 bls_); replace BK420 := bkb_ BK420 hb; replace BK421 := bkb_ BK421 hb; replace BK422 := bkb_ BK422 hb; replace HB := hbs_ hb; (try clear hb ho0); obtain ⟨Ao16, co16, eo16⟩ := Kd.R_slice HO425.out; subst eo16; have hnb17 := NB422_421.out; have hnc17 := NB421_422.out; obtain ⟨hcz18, hfz18⟩ := bcf_ BK422; obtain ⟨hcz19, hfz19⟩ := bcf_ BK420) | ((with_reducible refine gC_ 17 rfl ?_); refine goesC_ (some 13) Tryz.func17 #[.slice A0_2 l0_2.length c0_2] ?_; (with_reducible refine (laws_toIntS.calls k _ _ l0_2 t426 _ ?side1 ?side2 A3.out).mono ?_); (case side1 => exact Kd.C_below HR0_2.out bl_); (case side2 => exact HC0_2.out); rintro e w20 ⟨v427, rfl, ho0, hb⟩; refine ⟨_, rfl, ?_⟩; replace HO425 := aa_ (Kd.R_elder' (by (with_reducible repeat (first | apply Kd.R_alloc | apply Kd.R_drewN | apply Kd.R_drew)); exact (Kd.R_mono (fr2_ (Kd.R_types HO425.out BK422.out (by decide)) (fun _ hk => hk.2)) (fun _ h_ => h_.1))) (Kd.R_base ho0) hb); have HO428 := aa_ (Kd.R_lower ho0 bls_); replace BK420 := aa_ (blk_below (g := gb420) (o := .cells #[.slice A0_0 l0_0.length c0_0, .int .i64 a0_1, .slice A0_2 l0_2.length c0_2, .slice A0_3 l0_3.length c0_3, .slice A0_4 l0_4.length c0_4, .slice A0_5 l0_5.length c0_5, .slice A0_6 l0_6.length c0_6, .slice A0_7 l0_7.length c0_7] 30 (0, 0)) (bk_ BK420) hb); replace BK421 := aa_ (blk_below (g := gb421) (o := .cells #[.slice none 0 0, .int .i64 0, .slice none 0 0, .slice none 0 0, .slice none 0 0, .slice none 0 0, .slice none 0 0, .slice none 0 0] 40 (0, 0)) (bk_ BK421) hb); replace BK422 := aa_ (blk_below (g := gb422) (o := .cells #[.slice Ao16 t423.length co16, .int .i64 a0_1, .slice none 0 0, .slice none 0 0, .slice none 0 0, .slice none 0 0, .slice none 0 0, .slice none 0 0] 40 (0, 0)) (bk_ BK422) hb); replace HB := hbs_ hb; (try clear hb ho0); obtain ⟨Ao21, co21, eo21⟩ := Kd.R_slice HO428.out; subst eo21; obtain ⟨hcz22, hfz22⟩ := bcf_ BK422; obtain ⟨hcz23, hfz23⟩ := bcf_ BK420) | ((with_reducible refine gC_ 18 rfl ?_); refine goesC_ (some 17) Tryz.func18 #[.slice A0_3 l0_3.length c0_3] ?_; (with_reducible refine (laws_toCredS.calls k _ _ l0_3 t429 _ ?side1 ?side2 A4.out).mono ?_); (case side1 => exact Kd.C_below HR0_3.out bl_); (case side2 => exact HC0_3.out); rintro e w24 ⟨v430, rfl, ho0, hb⟩; refine ⟨_, rfl, ?_⟩; replace HO425 := aa_ (Kd.R_below (by (with_reducible repeat (first | apply Kd.R_alloc | apply Kd.R_drewN | apply Kd.R_drew)); exact (Kd.R_mono (Kd.R_far (p := ⟨gb422, 2, none⟩) (Kd.R_types HO425.out BK422.out (by decide)) (fun _ hk => hk.2) (.slice Ao21 t426.length co21)) (fun _ h_ => h_.1))) hb); replace HO428 := aa_ (Kd.R_below (by (with_reducible repeat (first | apply Kd.R_alloc | apply Kd.R_drewN | apply Kd.R_drew)); exact (Kd.R_mono (Kd.R_far (p := ⟨gb422, 2, none⟩) (Kd.R_types HO428.out BK422.out (by decide)) (fun _ hk => hk.2) (.slice Ao21 t426.length co21)) (fun _ h_ => h_.1))) hb); have HO431 := aa_ (Kd.R_lower ho0 bls_); replace BK420 := aa_ (blk_below (g := gb420) (o := .cells #[.slice A0_0 l0_0.length c0_0, .int .i64 a0_1, .slice A0_2 l0_2.length c0_2, .slice A0_3 l0_3.length c0_3, .slice A0_4 l0_4.length c0_4, .slice A0_5 l0_5.length c0_5, .slice A0_6 l0_6.length c0_6, .slice A0_7 l0_7.length c0_7] 30 (0, 0)) (bk_ BK420) hb); replace BK421 := aa_ (blk_below (g := gb421) (o := .cells #[.slice none 0 0, .int .i64 0, .slice none 0 0, .slice none 0 0, .slice none 0 0, .slice none 0 0, .slice none 0 0, .slice none 0 0] 40 (0, 0)) (bk_ BK421) hb); replace BK422 := aa_ (blk_below (g := gb422) (o := .cells #[.slice Ao16 t423.length co16, .int .i64 a0_1, .slice Ao21 t426.length co21, .slice none 0 0, .slice none 0 0, .slice none 0 0, .slice none 0 0, .slice none 0 0] 40 (0, 0)) (bk_ BK422) hb); replace HB := hbs_ hb; (try clear hb ho0); obtain ⟨Ao25, co25, eo25⟩ := Kd.R_slice HO431.out; subst eo25; obtain ⟨hcz26, hfz26⟩ := bcf_ BK422; obtain ⟨hcz27, hfz27⟩ := bcf_ BK420) | ((with_reducible refine gC_ 18 rfl ?_); refine goesC_ (some 21) Tryz.func18 #[.slice A0_4 l0_4.length c0_4] ?_; (with_reducible refine (laws_toCredS.calls k _ _ l0_4 t432 _ ?side1 ?side2 A5.out).mono ?_); (case side1 => exact Kd.C_below HR0_4.out bl_); (case side2 => exact HC0_4.out); rintro e w28 ⟨v433, rfl, ho0, hb⟩; refine ⟨_, rfl, ?_⟩; replace HO425 := aa_ (Kd.R_below (by (with_reducible repeat (first | apply Kd.R_alloc | apply Kd.R_drewN | apply Kd.R_drew)); exact (Kd.R_mono (Kd.R_far (p := ⟨gb422, 3, none⟩) (Kd.R_types HO425.out BK422.out (by decide)) (fun _ hk => hk.2) (.slice Ao25 t429.length co25)) (fun _ h_ => h_.1))) hb); replace HO428 := aa_ (Kd.R_below (by (with_reducible repeat (first | apply Kd.R_alloc | apply Kd.R_drewN | apply Kd.R_drew)); exact (Kd.R_mono (Kd.R_far (p := ⟨gb422, 3, none⟩) (Kd.R_types HO428.out BK422.out (by decide)) (fun _ hk => hk.2) (.slice Ao25 t429.length co25)) (fun _ h_ => h_.1))) hb); have HO434 := aa_ (Kd.R_lower (Kd.R_new' ho0 (Kd.R_lt (by (with_reducible repeat (first | apply Kd.R_alloc | apply Kd.R_drewN | apply Kd.R_drew)); exact (Kd.R_mono (Kd.R_far (p := ⟨gb422, 3, none⟩) (Kd.R_types HO431.out BK422.out (by decide)) (fun _ hk => hk.2) (.slice Ao25 t429.length co25)) (fun _ h_ => h_.1))))) bls_); replace HO431 := aa_ (Kd.R_elder' (by (with_reducible repeat (first | apply Kd.R_alloc | apply Kd.R_drewN | apply Kd.R_drew)); exact (Kd.R_mono (Kd.R_far (p := ⟨gb422, 3, none⟩) (Kd.R_types HO431.out BK422.out (by decide)) (fun _ hk => hk.2) (.slice Ao25 t429.length co25)) (fun _ h_ => h_.1))) (Kd.R_base ho0) hb); replace BK420 := aa_ (blk_below (g := gb420) (o := .cells #[.slice A0_0 l0_0.length c0_0, .int .i64 a0_1, .slice A0_2 l0_2.length c0_2, .slice A0_3 l0_3.length c0_3, .slice A0_4 l0_4.length c0_4, .slice A0_5 l0_5.length c0_5, .slice A0_6 l0_6.length c0_6, .slice A0_7 l0_7.length c0_7] 30 (0, 0)) (bk_ BK420) hb); replace BK421 := aa_ (blk_below (g := gb421) (o := .cells #[.slice none 0 0, .int .i64 0, .slice none 0 0, .slice none 0 0, .slice none 0 0, .slice none 0 0, .slice none 0 0, .slice none 0 0] 40 (0, 0)) (bk_ BK421) hb); replace BK422 := aa_ (blk_below (g := gb422) (o := .cells #[.slice Ao16 t423.length co16, .int .i64 a0_1, .slice Ao21 t426.length co21, .slice Ao25 t429.length co25, .slice none 0 0, .slice none 0 0, .slice none 0 0, .slice none 0 0] 40 (0, 0)) (bk_ BK422) hb); replace HB := hbs_ hb; (try clear hb ho0); obtain ⟨Ao29, co29, eo29⟩ := Kd.R_slice HO434.out; subst eo29; obtain ⟨hcz30, hfz30⟩ := bcf_ BK422; obtain ⟨hcz31, hfz31⟩ := bcf_ BK420) | ((with_reducible refine gC_ 19 rfl ?_); refine goesC_ (some 25) Tryz.func19 #[.slice A0_5 l0_5.length c0_5] ?_; (with_reducible refine (laws_toAnswerS.calls k _ _ l0_5 t435 _ ?side1 ?side2 A6.out).mono ?_); (case side1 => exact Kd.C_below HR0_5.out bl_); (case side2 => exact HC0_5.out); rintro e w32 ⟨v436, rfl, ho0, hb⟩; refine ⟨_, rfl, ?_⟩; replace HO425 := aa_ (Kd.R_below (by (with_reducible repeat (first | apply Kd.R_alloc | apply Kd.R_drewN | apply Kd.R_drew)); exact (Kd.R_mono (Kd.R_far (p := ⟨gb422, 4, none⟩) (Kd.R_types HO425.out BK422.out (by decide)) (fun _ hk => hk.2) (.slice Ao29 t432.length co29)) (fun _ h_ => h_.1))) hb); replace HO431 := aa_ (Kd.R_below (by (with_reducible repeat (first | apply Kd.R_alloc | apply Kd.R_drewN | apply Kd.R_drew)); exact (Kd.R_mono (Kd.R_far (p := ⟨gb422, 4, none⟩) (Kd.R_types HO431.out BK422.out (by decide)) (fun _ hk => hk.2) (.slice Ao29 t432.length co29)) (fun _ h_ => h_.1))) hb); replace HO434 := aa_ (Kd.R_below (by (with_reducible repeat (first | apply Kd.R_alloc | apply Kd.R_drewN | apply Kd.R_drew)); exact (Kd.R_mono (Kd.R_far (p := ⟨gb422, 4, none⟩) (Kd.R_types HO434.out BK422.out (by decide)) (fun _ hk => hk.2) (.slice Ao29 t432.length co29)) (fun _ h_ => h_.1))) hb); have HO437 := aa_ (Kd.R_lower (Kd.R_new' ho0 (Kd.R_lt (by (with_reducible repeat (first | apply Kd.R_alloc | apply Kd.R_drewN | apply Kd.R_drew)); exact (Kd.R_mono (Kd.R_far (p := ⟨gb422, 4, none⟩) (Kd.R_types HO428.out BK422.out (by decide)) (fun _ hk => hk.2) (.slice Ao29 t432.length co29)) (fun _ h_ => h_.1))))) bls_); replace HO428 := aa_ (Kd.R_below (by (with_reducible repeat (first | apply Kd.R_alloc | apply Kd.R_drewN | apply Kd.R_drew)); exact (Kd.R_mono (Kd.R_far (p := ⟨gb422, 4, none⟩) (Kd.R_types HO428.out BK422.out (by decide)) (fun _ hk => hk.2) (.slice Ao29 t432.length co29)) (fun _ h_ => h_.1))) hb); replace BK420 := aa_ (blk_below (g := gb420) (o := .cells #[.slice A0_0 l0_0.length c0_0, .int .i64 a0_1, .slice A0_2 l0_2.length c0_2, .slice A0_3 l0_3.length c0_3, .slice A0_4 l0_4.length c0_4, .slice A0_5 l0_5.length c0_5, .slice A0_6 l0_6.length c0_6, .slice A0_7 l0_7.length c0_7] 30 (0, 0)) (bk_ BK420) hb); replace BK421 := aa_ (blk_below (g := gb421) (o := .cells #[.slice none 0 0, .int .i64 0, .slice none 0 0, .slice none 0 0, .slice none 0 0, .slice none 0 0, .slice none 0 0, .slice none 0 0] 40 (0, 0)) (bk_ BK421) hb); replace BK422 := aa_ (blk_below (g := gb422) (o := .cells #[.slice Ao16 t423.length co16, .int .i64 a0_1, .slice Ao21 t426.length co21, .slice Ao25 t429.length co25, .slice Ao29 t432.length co29, .slice none 0 0, .slice none 0 0, .slice none 0 0] 40 (0, 0)) (bk_ BK422) hb); replace HB := hbs_ hb; (try clear hb ho0); obtain ⟨Ao33, co33, eo33⟩ := Kd.R_slice HO437.out; subst eo33; obtain ⟨hcz34, hfz34⟩ := bcf_ BK422; obtain ⟨hcz35, hfz35⟩ := bcf_ BK420) | ((with_reducible refine gC_ 20 rfl ?_); refine goesC_ (some 29) Tryz.func20 #[.slice A0_6 l0_6.length c0_6] ?_; (with_reducible refine (laws_toFactS.calls k _ _ l0_6 t438 _ ?side1 ?side2 A7.out).mono ?_); (case side1 => exact Kd.C_below HR0_6.out bl_); (case side2 => exact HC0_6.out); rintro e w36 ⟨v439, rfl, ho0, hb⟩; refine ⟨_, rfl, ?_⟩; replace HO425 := aa_ (Kd.R_below (by (with_reducible repeat (first | apply Kd.R_alloc | apply Kd.R_drewN | apply Kd.R_drew)); exact (Kd.R_mono (Kd.R_far (p := ⟨gb422, 5, none⟩) (Kd.R_types HO425.out BK422.out (by decide)) (fun _ hk => hk.2) (.slice Ao33 t435.length co33)) (fun _ h_ => h_.1))) hb); replace HO428 := aa_ (Kd.R_below (by (with_reducible repeat (first | apply Kd.R_alloc | apply Kd.R_drewN | apply Kd.R_drew)); exact (Kd.R_mono (Kd.R_far (p := ⟨gb422, 5, none⟩) (Kd.R_types HO428.out BK422.out (by decide)) (fun _ hk => hk.2) (.slice Ao33 t435.length co33)) (fun _ h_ => h_.1))) hb); replace HO431 := aa_ (Kd.R_below (by (with_reducible repeat (first | apply Kd.R_alloc | apply Kd.R_drewN | apply Kd.R_drew)); exact (Kd.R_mono (Kd.R_far (p := ⟨gb422, 5, none⟩) (Kd.R_types HO431.out BK422.out (by decide)) (fun _ hk => hk.2) (.slice Ao33 t435.length co33)) (fun _ h_ => h_.1))) hb); replace HO434 := aa_ (Kd.R_below (by (with_reducible repeat (first | apply Kd.R_alloc | apply Kd.R_drewN | apply Kd.R_drew)); exact (Kd.R_mono (Kd.R_far (p := ⟨gb422, 5, none⟩) (Kd.R_types HO434.out BK422.out (by decide)) (fun _ hk => hk.2) (.slice Ao33 t435.length co33)) (fun _ h_ => h_.1))) hb); replace HO437 := aa_ (Kd.R_below (by (with_reducible repeat (first | apply Kd.R_alloc | apply Kd.R_drewN | apply Kd.R_drew)); exact (Kd.R_mono (Kd.R_far (p := ⟨gb422, 5, none⟩) (Kd.R_types HO437.out BK422.out (by decide)) (fun _ hk => hk.2) (.slice Ao33 t435.length co33)) (fun _ h_ => h_.1))) hb); have HO440 := aa_ (Kd.R_lower ho0 bls_); replace BK420 := aa_ (blk_below (g := gb420) (o := .cells #[.slice A0_0 l0_0.length c0_0, .int .i64 a0_1, .slice A0_2 l0_2.length c0_2, .slice A0_3 l0_3.length c0_3, .slice A0_4 l0_4.length c0_4, .slice A0_5 l0_5.length c0_5, .slice A0_6 l0_6.length c0_6, .slice A0_7 l0_7.length c0_7] 30 (0, 0)) (bk_ BK420) hb); replace BK421 := aa_ (blk_below (g := gb421) (o := .cells #[.slice none 0 0, .int .i64 0, .slice none 0 0, .slice none 0 0, .slice none 0 0, .slice none 0 0, .slice none 0 0, .slice none 0 0] 40 (0, 0)) (bk_ BK421) hb); replace BK422 := aa_ (blk_below (g := gb422) (o := .cells #[.slice Ao16 t423.length co16, .int .i64 a0_1, .slice Ao21 t426.length co21, .slice Ao25 t429.length co25, .slice Ao29 t432.length co29, .slice Ao33 t435.length co33, .slice none 0 0, .slice none 0 0] 40 (0, 0)) (bk_ BK422) hb); replace HB := hbs_ hb; (try clear hb ho0); obtain ⟨Ao37, co37, eo37⟩ := Kd.R_slice HO440.out; subst eo37; obtain ⟨hcz38, hfz38⟩ := bcf_ BK422; obtain ⟨hcz39, hfz39⟩ := bcf_ BK420) | ((with_reducible refine gC_ 17 rfl ?_); refine goesC_ (some 33) Tryz.func17 #[.slice A0_7 l0_7.length c0_7] ?_; (with_reducible refine (laws_toIntS.calls k _ _ l0_7 t441 _ ?side1 ?side2 A8.out).mono ?_); (case side1 => exact Kd.C_below HR0_7.out bl_); (case side2 => exact HC0_7.out); rintro e w40 ⟨v442, rfl, ho0, hb⟩; refine ⟨_, rfl, ?_⟩; replace HO425 := aa_ (Kd.R_elder' (by (with_reducible repeat (first | apply Kd.R_alloc | apply Kd.R_drewN | apply Kd.R_drew)); exact (Kd.R_mono (Kd.R_far (p := ⟨gb422, 6, none⟩) (Kd.R_types HO425.out BK422.out (by decide)) (fun _ hk => hk.2) (.slice Ao37 t438.length co37)) (fun _ h_ => h_.1))) (Kd.R_base ho0) hb); replace HO431 := aa_ (Kd.R_below (by (with_reducible repeat (first | apply Kd.R_alloc | apply Kd.R_drewN | apply Kd.R_drew)); exact (Kd.R_mono (Kd.R_far (p := ⟨gb422, 6, none⟩) (Kd.R_types HO431.out BK422.out (by decide)) (fun _ hk => hk.2) (.slice Ao37 t438.length co37)) (fun _ h_ => h_.1))) hb); replace HO434 := aa_ (Kd.R_below (by (with_reducible repeat (first | apply Kd.R_alloc | apply Kd.R_drewN | apply Kd.R_drew)); exact (Kd.R_mono (Kd.R_far (p := ⟨gb422, 6, none⟩) (Kd.R_types HO434.out BK422.out (by decide)) (fun _ hk => hk.2) (.slice Ao37 t438.length co37)) (fun _ h_ => h_.1))) hb); replace HO437 := aa_ (Kd.R_elder' (by (with_reducible repeat (first | apply Kd.R_alloc | apply Kd.R_drewN | apply Kd.R_drew)); exact (Kd.R_mono (Kd.R_far (p := ⟨gb422, 6, none⟩) (Kd.R_types HO437.out BK422.out (by decide)) (fun _ hk => hk.2) (.slice Ao37 t438.length co37)) (fun _ h_ => h_.1))) (Kd.R_base ho0) hb); replace HO440 := aa_ (Kd.R_below (by (with_reducible repeat (first | apply Kd.R_alloc | apply Kd.R_drewN | apply Kd.R_drew)); exact (Kd.R_mono (Kd.R_far (p := ⟨gb422, 6, none⟩) (Kd.R_types HO440.out BK422.out (by decide)) (fun _ hk => hk.2) (.slice Ao37 t438.length co37)) (fun _ h_ => h_.1))) hb); have HO443 := aa_ (Kd.R_lower (Kd.R_new' ho0 (Kd.R_lt (by (with_reducible repeat (first | apply Kd.R_alloc | apply Kd.R_drewN | apply Kd.R_drew)); exact (Kd.R_mono (Kd.R_far (p := ⟨gb422, 6, none⟩) (Kd.R_types HO428.out BK422.out (by decide)) (fun _ hk => hk.2) (.slice Ao37 t438.length co37)) (fun _ h_ => h_.1))))) bls_); replace HO428 := aa_ (Kd.R_elder' (by (with_reducible repeat (first | apply Kd.R_alloc | apply Kd.R_drewN | apply Kd.R_drew)); exact (Kd.R_mono (Kd.R_far (p := ⟨gb422, 6, none⟩) (Kd.R_types HO428.out BK422.out (by decide)) (fun _ hk => hk.2) (.slice Ao37 t438.length co37)) (fun _ h_ => h_.1))) (Kd.R_base ho0) hb); replace BK420 := aa_ (blk_below (g := gb420) (o := .cells #[.slice A0_0 l0_0.length c0_0, .int .i64 a0_1, .slice A0_2 l0_2.length c0_2, .slice A0_3 l0_3.length c0_3, .slice A0_4 l0_4.length c0_4, .slice A0_5 l0_5.length c0_5, .slice A0_6 l0_6.length c0_6, .slice A0_7 l0_7.length c0_7] 30 (0, 0)) (bk_ BK420) hb); replace BK421 := aa_ (blk_below (g := gb421) (o := .cells #[.slice none 0 0, .int .i64 0, .slice none 0 0, .slice none 0 0, .slice none 0 0, .slice none 0 0, .slice none 0 0, .slice none 0 0] 40 (0, 0)) (bk_ BK421) hb); replace BK422 := aa_ (blk_below (g := gb422) (o := .cells #[.slice Ao16 t423.length co16, .int .i64 a0_1, .slice Ao21 t426.length co21, .slice Ao25 t429.length co25, .slice Ao29 t432.length co29, .slice Ao33 t435.length co33, .slice Ao37 t438.length co37, .slice none 0 0] 40 (0, 0)) (bk_ BK422) hb); replace HB := hbs_ hb; (try clear hb ho0); obtain ⟨Ao41, co41, eo41⟩ := Kd.R_slice HO443.out; subst eo41; obtain ⟨hcz42, hfz42⟩ := bcf_ BK422; obtain ⟨hcz43, hfz43⟩ := bcf_ BK421))
 refine bodyPost_ret (results_cell_row rfl _ _ gb421 40 #[.slice Ao16 t423.length co16, .int .i64 a0_1, .slice Ao21 t426.length co21, .slice Ao25 t429.length co25, .slice Ao29 t432.length co29, .slice Ao33 t435.length co33, .slice Ao37 t438.length co37, .slice Ao41 t441.length co41] (0, 0) _ rfl (bk_ BK421) Tryz.underlying40 rfl (by kernel_rfl)) rfl ?_
 exact ⟨_, _, _, _, _, _, _, eq_, by (with_reducible repeat (first | apply Kd.R_alloc | apply Kd.R_drewN | apply Kd.R_drew)); exact Kd.R_mono (fr8_ (Kd.R_far (p := ⟨gb422, 7, none⟩) (Kd.R_types (Kd.R_types HO425.out BK422.out (by decide)) BK421.out (by decide)) (fun _ hk => hk.1.2) (.slice Ao41 t441.length co41)) (fun _ hk => hk.2)) (fun _ hk => ⟨hk.1.1.1.2, hk.1.1.2⟩), by (with_reducible repeat (first | apply Kd.R_alloc | apply Kd.R_drewN | apply Kd.R_drew)); exact Kd.R_mono (fr8_ (Kd.R_far (p := ⟨gb422, 7, none⟩) (Kd.R_types (Kd.R_types HO428.out BK422.out (by decide)) BK421.out (by decide)) (fun _ hk => hk.1.2) (.slice Ao41 t441.length co41)) (fun _ hk => hk.2)) (fun _ hk => hk.1.1.2), by (with_reducible repeat (first | apply Kd.R_alloc | apply Kd.R_drewN | apply Kd.R_drew)); exact Kd.R_mono (fr8_ (Kd.R_far (p := ⟨gb422, 7, none⟩) (Kd.R_types (Kd.R_types HO431.out BK422.out (by decide)) BK421.out (by decide)) (fun _ hk => hk.1.2) (.slice Ao41 t441.length co41)) (fun _ hk => hk.2)) (fun _ hk => hk.1.1.2), by (with_reducible repeat (first | apply Kd.R_alloc | apply Kd.R_drewN | apply Kd.R_drew)); exact Kd.R_mono (fr8_ (Kd.R_far (p := ⟨gb422, 7, none⟩) (Kd.R_types (Kd.R_types HO434.out BK422.out (by decide)) BK421.out (by decide)) (fun _ hk => hk.1.2) (.slice Ao41 t441.length co41)) (fun _ hk => hk.2)) (fun _ hk => hk.1.1.2), by (with_reducible repeat (first | apply Kd.R_alloc | apply Kd.R_drewN | apply Kd.R_drew)); exact Kd.R_mono (fr8_ (Kd.R_far (p := ⟨gb422, 7, none⟩) (Kd.R_types (Kd.R_types HO437.out BK422.out (by decide)) BK421.out (by decide)) (fun _ hk => hk.1.2) (.slice Ao41 t441.length co41)) (fun _ hk => hk.2)) (fun _ hk => ⟨hk.1.1.1.2, hk.1.1.2⟩), by (with_reducible repeat (first | apply Kd.R_alloc | apply Kd.R_drewN | apply Kd.R_drew)); exact Kd.R_mono (fr8_ (Kd.R_far (p := ⟨gb422, 7, none⟩) (Kd.R_types (Kd.R_types HO440.out BK422.out (by decide)) BK421.out (by decide)) (fun _ hk => hk.1.2) (.slice Ao41 t441.length co41)) (fun _ hk => hk.2)) (fun _ hk => trivial), by (with_reducible repeat (first | apply Kd.R_alloc | apply Kd.R_drewN | apply Kd.R_drew)); exact Kd.R_mono (fr8_ (Kd.R_far (p := ⟨gb422, 7, none⟩) (Kd.R_types (Kd.R_types HO443.out BK422.out (by decide)) BK421.out (by decide)) (fun _ hk => hk.1.2) (.slice Ao41 t441.length co41)) (fun _ hk => hk.2)) (fun _ hk => hk.1.1.2), bl_⟩
def impl_in.f (a0 : Int) (a1 : Int) (a2 : Int) : Option (Bool) := if a0 ≥ a1 then (some (decide (a0 ≤ a2))) else (some false)
set_option maxHeartbeats 8000000 in
set_option maxRecDepth 100000 in
theorem impl_in.calls (a0 : Int) (a1 : Int) (a2 : Int) (r : Bool) (w : World) (h : impl_in.f a0 a1 a2 = some r) :
  Calls Tryz.prog 41 #[.int .i64 a0, .int .i64 a1, .int .i64 a2] w fun e w' => e = .returned (.bool r) ∧ Drawn0 w w' := by
 have H : (if a0 ≥ a1 then (some (decide (a0 ≤ a2))) else (some false)) = some r := h
 clear h
 by_cases c4 : a0 ≥ a1
 ·rw [if_pos c4] at H
  have c4b0 : decide (a1 ≤ a0) = true := decide_eq_true c4
  clear c4
  obtain rfl := Option.some.inj H
  go_enter Tryz.func41, Tryz.ntmps41
  go_wp2
  go_ret
  exact ⟨by first | rfl | (simp; done) | (simp [*]; done), by repeat (first | exact Drawn0.refl _ | apply Drawn0.step)⟩
 ·rw [if_neg c4] at H
  have c4b0 : decide (a1 ≤ a0) = false := decide_eq_false c4
  clear c4
  obtain rfl := Option.some.inj H
  go_enter Tryz.func41, Tryz.ntmps41
  go_wp2
  go_ret
  exact ⟨by first | rfl | (simp; done) | (simp [*]; done), by repeat (first | exact Drawn0.refl _ | apply Drawn0.step)⟩
def impl_isPlace.f (a0 : Int) : Option (Bool) := (impl_in.f a0 0 255).bind fun t444 => (some t444)
set_option maxHeartbeats 8000000 in
set_option maxRecDepth 100000 in
theorem impl_isPlace.calls (a0 : Int) (r : Bool) (w : World) (h : impl_isPlace.f a0 = some r) :
  Calls Tryz.prog 65 #[.int .i64 a0] w fun e w' => e = .returned (.bool r) ∧ Drawn0 w w' := by
 have H : ((impl_in.f a0 0 255).bind fun t444 => (some t444)) = some r := h
 clear h
 obtain ⟨t444, A2, H⟩ := bindE_ H
 obtain rfl := Option.some.inj H
 go_enter Tryz.func65, Tryz.ntmps65
 go_wp2_with (first | ((with_reducible refine gC_ 41 rfl ?_); refine goesC_ (some 4) Tryz.func41 #[.int .i64 a0, .int .i64 0, .int .i64 255] ?_; (with_reducible refine (impl_in.calls a0 0 255 t444 _ A2.out).mono ?_); rintro e w' ⟨rfl, ⟨nd, rfl⟩⟩; refine ⟨_, rfl, ?_⟩))
 go_ret
 exact ⟨by first | rfl | (simp; done) | (simp [*]; done), by repeat (first | exact Drawn0.refl _ | apply Drawn0.step)⟩
def slices_IndexFunc_int_int.l0 : Nat → List Int → (Int → Option Bool) → Int → Int → Option (Int)
 | 0, _, _, _, _ => none
 | k + 1, x0, x1, x7, x8 => if x8 < x7 then (if 0 ≤ x8 then (if x8 < (x0.length : Int) then ((x1 (rd x0 x8)).bind fun t446 => (if t446 = true then (some x8) else (slices_IndexFunc_int_int.l0 k x0 x1 x7 (wrap64 (x8 + 1))))) else (none)) else (none)) else (some (-1))
def slices_IndexFunc_int_int.f (k : Nat) (l0 : List Int) (a1 : (Int → Option Bool)) : Option (Int) := slices_IndexFunc_int_int.l0 k l0 a1 (l0.length : Int) 0
set_option maxHeartbeats 8000000 in
set_option maxRecDepth 100000 in
theorem slices_IndexFunc_int_int.calls (k : Nat) (A0 : Option Addr) (c0 : Nat) (l0 : List Int) (a1 : (Int → Option Bool)) (na1_ : Nat) (ga1_ : Array Value) (r : Int) (w : World) (hr0 : Kd.C (Kd.int .i64) w A0 l0.length l0) (hc0 : l0.length ≤ c0) (hq1 : ∀ W_, Below w.heap.size w W_ → FnOkI a1 na1_ ga1_ W_) (h : slices_IndexFunc_int_int.f k l0 a1 = some r) :
  Calls Tryz.prog 86 #[.slice A0 l0.length c0, .func (.func na1_) #[] ga1_] w fun e w' => e = .returned (.int .i64 r) ∧ Below w.heap.size w w' := by
 have HR0 := aa_ hr0
 have HC0 := aa_ hc0
 clear hr0 hc0
 have HFN1 := aa_ hq1
 have eg1 := (hq1 w (Below.refl _ _)).1
 clear hq1
 have HB := aa_ (Below.refl w.heap.size w)
 have H : (slices_IndexFunc_int_int.l0 k l0 a1 (l0.length : Int) 0) = some r := h
 clear h
 have H' := aa_ H
 clear H
 go_enter Tryz.func86, Tryz.ntmps86
 go_wp2
 go_loopg [8] k (fun kq v8 w' => ∃ (x8_1 : Int), v8 = .int .i64 x8_1 ∧ Aside0 (slices_IndexFunc_int_int.l0 kq l0 a1 (l0.length : Int) x8_1 = some r) ∧ Aside0 (kq ≤ k) ∧ Aside0 (Below w.heap.size w w'))
 case atStart => exact ⟨(0), rf_, H', ⟨Nat.le_refl _⟩, ⟨bl_⟩⟩
 case round =>
  clear H'
  try clear q1
  try clear p2
  obtain ⟨x8_1, rfl, HA, HK1, HB⟩ := hrel
  cases gk with
  | zero => exact absurd HA.out (by simp [slices_IndexFunc_int_int.l0])
  | succ k1 =>
   have H := HA.out
   clear HA
   simp only [slices_IndexFunc_int_int.l0] at H
   by_cases c3 : x8_1 < (l0.length : Int)
   ·rw [if_pos c3] at H
    have c3b0 : decide (x8_1 < (l0.length : Int)) = true := decide_eq_true c3
    clear c3
    obtain ⟨c4b0, H⟩ := ifd_ H
    obtain ⟨c5b0, H⟩ := ifd_ H
    obtain ⟨t446, A6, H⟩ := bindE_ H
    have HC7 := aa_ H
    clear H
    have p445 : 0 ≤ (x8_1 : Int) := od_
    have q445 : x8_1 < (l0.length : Int) := od_
    obtain ⟨ad445, e445, hx445_0⟩ := Kd.at_int (Kd.C_below HR0.out HB.out) x8_1 p445 q445
    cases e445
    replace p445 := eq_true p445
    replace q445 := eq_true q445
    go_upto_if 16 with (first | (go_at_fn na1_; (refine ((HFN1.out _ bl_).2 _ _ A6.out).mono ?_); rintro e w8 ⟨rfl, hb⟩; replace HB := hbs_ hb; clear hb))
    (try simp only [Act.put, sb_, sz_, ss_])
    have H := HC7.out
    clear HC7
    by_cases c9 : t446 = true
    ·subst c9
     replace H := ite_t_ H
     obtain rfl := Option.some.inj H
     go_wp2
     go_ret
     exact ⟨eq_, bl_⟩
    ·replace c9 := Bool.eq_false_iff.mpr c9
     subst c9
     replace H := ite_f_ H
     have H' := aa_ H
     clear H
     go_wp2
     go_roundg k1
     case measure => have := HK1.out; omega
     case rel => exact ⟨(wrap64 (x8_1 + 1)), rf_, H', ⟨by have := HK1.out; omega⟩, ⟨bl_⟩⟩
   ·rw [if_neg c3] at H
    have c3b0 : decide (x8_1 < (l0.length : Int)) = false := decide_eq_false c3
    clear c3
    obtain rfl := Option.some.inj H
    go_wp2
    go_ret
    exact ⟨eq_, bl_⟩
def slices_ContainsFunc_int_int.f (k : Nat) (l0 : List Int) (a1 : (Int → Option Bool)) : Option (Bool) := (slices_IndexFunc_int_int.f k l0 a1).bind fun t447 => (some (decide (t447 ≥ 0)))
set_option maxHeartbeats 8000000 in
set_option maxRecDepth 100000 in
theorem slices_ContainsFunc_int_int.calls (k : Nat) (A0 : Option Addr) (c0 : Nat) (l0 : List Int) (a1 : (Int → Option Bool)) (na1_ : Nat) (ga1_ : Array Value) (r : Bool) (w : World) (hr0 : Kd.C (Kd.int .i64) w A0 l0.length l0) (hc0 : l0.length ≤ c0) (hq1 : ∀ W_, Below w.heap.size w W_ → FnOkI a1 na1_ ga1_ W_) (h : slices_ContainsFunc_int_int.f k l0 a1 = some r) :
  Calls Tryz.prog 66 #[.slice A0 l0.length c0, .func (.func na1_) #[] ga1_] w fun e w' => e = .returned (.bool r) ∧ Below w.heap.size w w' := by
 have HR0 := aa_ hr0
 have HC0 := aa_ hc0
 clear hr0 hc0
 have HFN1 := aa_ hq1
 have eg1 := (hq1 w (Below.refl _ _)).1
 clear hq1
 have HB := aa_ (Below.refl w.heap.size w)
 have H : ((slices_IndexFunc_int_int.f k l0 a1).bind fun t447 => (some (decide (t447 ≥ 0)))) = some r := h
 clear h
 obtain ⟨t447, A3, H⟩ := bindE_ H
 obtain rfl := Option.some.inj H
 go_enter Tryz.func66, Tryz.ntmps66
 go_wp2_with (first | ((with_reducible refine gC_ 86 rfl ?_); refine goesC_ (some 7) Tryz.func86 #[.slice A0 l0.length c0, .func (.func na1_) #[] ga1_] ?_; (with_reducible refine (slices_IndexFunc_int_int.calls k _ _ l0 a1 na1_ ga1_ t447 _ ?side1 ?side2 ?side3 A3.out).mono ?_); (case side1 => exact cc_ HR0); (case side2 => exact HC0.out); (case side3 => exact fun W_ hW_ => HFN1.out W_ ((show Below w.heap.size w _ from bl_).trans hW_)); rintro e w4 ⟨rfl, hb⟩; refine ⟨_, rfl, ?_⟩; replace HB := hbs_ hb; clear hb))
 go_ret
 exact ⟨eq_, bl_⟩
-- NOT PRINTED: function 67 (impl_PeerOk_1)
-- NOT PRINTED: function 68 (impl_PeerOk_2)
end Go.Proofs.YteofimccoadmeaaGreat.PA
