import Derived.Test.YteppfdkfikeclaaKRPLx4
-- A text of this claim: written by the session's own program out of the translation (wip/tools). Lean checks it.
namespace Go.Proofs.Yteppfdkfikeclaa.PL
open Go.RowKit Go.Proofs.YteppfdkfikeclaaW.PrintWords Go.Proofs.YteppfdkfikeclaaW.PrintLast Go.Proofs.YteppfdkfikeclaaW.PrintMore
attribute [local go_sem] max2_int min2_int max_two min_two max_three min_three max_four min_four   -- for this text's walks alone
set_option linter.unusedVariables false
set_option linter.unusedSimpArgs false
attribute [local go_sem high] eqA29
mutual
def spec_l22Step.j0 : Nat → ByteArray → Int → Int → Bool → Int → Int → Int → Int → Int → Int → Int → Int → Int → Int → Int → Int → Int → Int → Int → Int → Int → Int → Int → Int → Int → Int → Int → Option (Int × Int × Int × Int × Int × Int × Int × Int × Int × Int × Int × Int × Int × List Int × Int)
 | 0, _, _, _, _, _, _, _, _, _, _, _, _, _, _, _, _, _, _, _, _, _, _, _, _, _, _, _ => none
 | k + 1, x0, x12, x13, x51, x166000, x166001, x166002, x166003, x166004, x166005, x166006, x166007, x166008, x166009, x166010, x166011, x166012, x181000, x181001, x181002, x181003, x181004, x181005, x181006, x181007, x181008, x181009 => if x51 = true then (some (x166000, x166001, x166002, x166003, x166004, x166005, x166006, x166007, x166008, x166009, x166010, x166011, x166012, ([] : List Int), (-1))) else ((spec_ReadVar.f k x0 x13).bind fun bt184 => (if bt184.2.2 = true then (spec_l22Step.j1 k x0 x12 bt184.1 bt184.2.1 (decide (bt184.1 > 2)) x166000 x166001 x166002 x166003 x166004 x166005 x166006 x166007 x166008 x166009 x166010 x166011 x166012 x181000 x181001 x181002 x181003 x181004 x181005 x181006 x181007 x181008 x181009) else (spec_l22Step.j1 k x0 x12 bt184.1 bt184.2.1 true x166000 x166001 x166002 x166003 x166004 x166005 x166006 x166007 x166008 x166009 x166010 x166011 x166012 x181000 x181001 x181002 x181003 x181004 x181005 x181006 x181007 x181008 x181009)))
def spec_l22Step.j1 : Nat → ByteArray → Int → Int → Int → Bool → Int → Int → Int → Int → Int → Int → Int → Int → Int → Int → Int → Int → Int → Int → Int → Int → Int → Int → Int → Int → Int → Int → Int → Option (Int × Int × Int × Int × Int × Int × Int × Int × Int × Int × Int × Int × Int × List Int × Int)
 | 0, _, _, _, _, _, _, _, _, _, _, _, _, _, _, _, _, _, _, _, _, _, _, _, _, _, _, _, _ => none
 | k + 1, x0, x12, x15, x16, x65, x166000, x166001, x166002, x166003, x166004, x166005, x166006, x166007, x166008, x166009, x166010, x166011, x166012, x181000, x181001, x181002, x181003, x181004, x181005, x181006, x181007, x181008, x181009 => if x65 = true then (some (x166000, x166001, x166002, x166003, x166004, x166005, x166006, x166007, x166008, x166009, x166010, x166011, x166012, ([] : List Int), (-1))) else (spec_l22Step.l0 k x0 x15 x16 0 x166000 x166001 x166002 x166003 x166004 x166005 x166006 x166007 x166008 x166009 x166010 x166011 x166012 x181000 x181001 x181002 x181003 x181004 x181005 x181006 x181007 x181008 x181009 x181001 x181002 x12 (([] : List Int)))
def spec_l22Step.l0 : Nat → ByteArray → Int → Int → Int → Int → Int → Int → Int → Int → Int → Int → Int → Int → Int → Int → Int → Int → Int → Int → Int → Int → Int → Int → Int → Int → Int → Int → Int → Int → Int → List Int → Option (Int × Int × Int × Int × Int × Int × Int × Int × Int × Int × Int × Int × Int × List Int × Int)
 | 0, _, _, _, _, _, _, _, _, _, _, _, _, _, _, _, _, _, _, _, _, _, _, _, _, _, _, _, _, _, _, _ => none
 | k + 1, x0, x15, x16, x19, x166000, x166001, x166002, x166003, x166004, x166005, x166006, x166007, x166008, x166009, x166010, x166011, x166012, x191000, x191001, x191002, x191003, x191004, x191005, x191006, x191007, x191008, x191009, x191010, x191011, x191012, x191013 => if x19 < x15 then ((spec_ReadVar.f k x0 x16).bind fun bt191 => (if bt191.2.2 = true then (if x191013.length < 17592186044416 then (spec_l22Step.l0 k x0 x15 bt191.2.1 (wrap64 (x19 + 1)) x166000 x166001 x166002 x166003 x166004 x166005 x166006 x166007 x166008 x166009 x166010 x166011 x166012 x191000 x191001 x191002 x191003 x191004 x191005 x191006 x191007 x191008 x191009 x191010 x191011 x191012 (x191013 ++ [bt191.1])) else (none)) else (some (x166000, x166001, x166002, x166003, x166004, x166005, x166006, x166007, x166008, x166009, x166010, x166011, x166012, ([] : List Int), (-1))))) else (some (x191000, x191001, x191002, x191003, x191004, x191005, x191006, x191007, x191008, x191009, x191010, x191011, x191012, x191013, x16))
end
def spec_l22Step.f (k : Nat) (a0 : ByteArray) (a1 : Int) : Option (Int × Int × Int × Int × Int × Int × Int × Int × Int × Int × Int × Int × Int × List Int × Int) := (spec_ReadShort.f k a0 a1).bind fun bt166 => (if bt166.2.2 = true then ((spec_ReadCred.f k bt166.1).bind fun bt169 => ((spec_ReadVar.f k a0 bt166.2.1).bind fun bt181 => (if bt169.2.2.2.2.2.2.2.2.2.2 = true then (spec_l22Step.j0 k a0 bt181.1 bt181.2.1 (!bt181.2.2) 0 0 0 0 0 0 0 0 0 0 0 0 0 bt169.1 bt169.2.1 bt169.2.2.1 bt169.2.2.2.1 bt169.2.2.2.2.1 bt169.2.2.2.2.2.1 bt169.2.2.2.2.2.2.1 bt169.2.2.2.2.2.2.2.1 bt169.2.2.2.2.2.2.2.2.1 bt169.2.2.2.2.2.2.2.2.2.1) else (spec_l22Step.j0 k a0 bt181.1 bt181.2.1 true 0 0 0 0 0 0 0 0 0 0 0 0 0 bt169.1 bt169.2.1 bt169.2.2.1 bt169.2.2.2.1 bt169.2.2.2.2.1 bt169.2.2.2.2.2.1 bt169.2.2.2.2.2.2.1 bt169.2.2.2.2.2.2.2.1 bt169.2.2.2.2.2.2.2.2.1 bt169.2.2.2.2.2.2.2.2.2.1)))) else (some (0, 0, 0, 0, 0, 0, 0, 0, 0, 0, 0, 0, 0, ([] : List Int), (-1))))
set_option maxHeartbeats 8000000 in
set_option maxRecDepth 100000 in
theorem spec_l22Step.calls (k : Nat) (a0 : ByteArray) (a1 : Int) (r1 : Int) (r2 : Int) (r3 : Int) (r4 : Int) (r5 : Int) (r6 : Int) (r7 : Int) (r8 : Int) (r9 : Int) (r10 : Int) (r11 : Int) (r12 : Int) (r13 : Int) (r14 : List Int) (r15 : Int) (w : World) (h : spec_l22Step.f k a0 a1 = some (r1, r2, r3, r4, r5, r6, r7, r8, r9, r10, r11, r12, r13, r14, r15)) :
  Calls Try.prog 9 #[.string a0, .int .i64 a1] w fun e w' => ∃ v13_ : Value, e = .returned (.tuple #[.agg #[.int .i64 r1, .int .i64 r2, .int .i64 r3, .int .i64 r4, .int .i64 r5, .int .i64 r6, .int .i64 r7, .int .i64 r8, .int .i64 r9, .int .i64 r10, .int .i64 r11, .int .i64 r12, .int .i64 r13, v13_], .int .i64 r15]) ∧ Kd.R (Kd.int .i64) 3 w' w.heap.size (fun _ => True) v13_ r14 ∧ Below w.heap.size w w' := by
 have hu36 := Try.underlying36
 have hu31 := Try.underlying31
 have hu29 := Try.underlying29
 have hu33 := Try.underlying33
 have HB := Aside0.mk (Below.refl w.heap.size w)
 have H : ((spec_ReadShort.f k a0 a1).bind fun bt166 => (if bt166.2.2 = true then ((spec_ReadCred.f k bt166.1).bind fun bt169 => ((spec_ReadVar.f k a0 bt166.2.1).bind fun bt181 => (if bt169.2.2.2.2.2.2.2.2.2.2 = true then (spec_l22Step.j0 k a0 bt181.1 bt181.2.1 (!bt181.2.2) 0 0 0 0 0 0 0 0 0 0 0 0 0 bt169.1 bt169.2.1 bt169.2.2.1 bt169.2.2.2.1 bt169.2.2.2.2.1 bt169.2.2.2.2.2.1 bt169.2.2.2.2.2.2.1 bt169.2.2.2.2.2.2.2.1 bt169.2.2.2.2.2.2.2.2.1 bt169.2.2.2.2.2.2.2.2.2.1) else (spec_l22Step.j0 k a0 bt181.1 bt181.2.1 true 0 0 0 0 0 0 0 0 0 0 0 0 0 bt169.1 bt169.2.1 bt169.2.2.1 bt169.2.2.2.1 bt169.2.2.2.2.1 bt169.2.2.2.2.2.1 bt169.2.2.2.2.2.2.1 bt169.2.2.2.2.2.2.2.1 bt169.2.2.2.2.2.2.2.2.1 bt169.2.2.2.2.2.2.2.2.2.1)))) else (some (0, 0, 0, 0, 0, 0, 0, 0, 0, 0, 0, 0, 0, ([] : List Int), (-1))))) = some (r1, r2, r3, r4, r5, r6, r7, r8, r9, r10, r11, r12, r13, r14, r15) := h
 clear h
 obtain ⟨⟨t166, t167, t168⟩, A3, H⟩ := bindE_ H
 replace H : (if t168 = true then ((spec_ReadCred.f k t166).bind fun bt169 => ((spec_ReadVar.f k a0 t167).bind fun bt181 => (if bt169.2.2.2.2.2.2.2.2.2.2 = true then (spec_l22Step.j0 k a0 bt181.1 bt181.2.1 (!bt181.2.2) 0 0 0 0 0 0 0 0 0 0 0 0 0 bt169.1 bt169.2.1 bt169.2.2.1 bt169.2.2.2.1 bt169.2.2.2.2.1 bt169.2.2.2.2.2.1 bt169.2.2.2.2.2.2.1 bt169.2.2.2.2.2.2.2.1 bt169.2.2.2.2.2.2.2.2.1 bt169.2.2.2.2.2.2.2.2.2.1) else (spec_l22Step.j0 k a0 bt181.1 bt181.2.1 true 0 0 0 0 0 0 0 0 0 0 0 0 0 bt169.1 bt169.2.1 bt169.2.2.1 bt169.2.2.2.1 bt169.2.2.2.2.1 bt169.2.2.2.2.2.1 bt169.2.2.2.2.2.2.1 bt169.2.2.2.2.2.2.2.1 bt169.2.2.2.2.2.2.2.2.1 bt169.2.2.2.2.2.2.2.2.2.1)))) else (some (0, 0, 0, 0, 0, 0, 0, 0, 0, 0, 0, 0, 0, ([] : List Int), (-1)))) = some (r1, r2, r3, r4, r5, r6, r7, r8, r9, r10, r11, r12, r13, r14, r15) := H
 by_cases c4 : t168 = true
 ·subst c4
  replace H := ite_t_ H
  obtain ⟨⟨t169, t170, t171, t172, t173, t174, t175, t176, t177, t178, t179⟩, A5, H⟩ := bindE_ H
  replace H : ((spec_ReadVar.f k a0 t167).bind fun bt181 => (if t179 = true then (spec_l22Step.j0 k a0 bt181.1 bt181.2.1 (!bt181.2.2) 0 0 0 0 0 0 0 0 0 0 0 0 0 t169 t170 t171 t172 t173 t174 t175 t176 t177 t178) else (spec_l22Step.j0 k a0 bt181.1 bt181.2.1 true 0 0 0 0 0 0 0 0 0 0 0 0 0 t169 t170 t171 t172 t173 t174 t175 t176 t177 t178))) = some (r1, r2, r3, r4, r5, r6, r7, r8, r9, r10, r11, r12, r13, r14, r15) := H
  obtain ⟨⟨t181, t182, t183⟩, A6, H⟩ := bindE_ H
  replace H : (if t179 = true then (spec_l22Step.j0 k a0 t181 t182 (!t183) 0 0 0 0 0 0 0 0 0 0 0 0 0 t169 t170 t171 t172 t173 t174 t175 t176 t177 t178) else (spec_l22Step.j0 k a0 t181 t182 true 0 0 0 0 0 0 0 0 0 0 0 0 0 t169 t170 t171 t172 t173 t174 t175 t176 t177 t178)) = some (r1, r2, r3, r4, r5, r6, r7, r8, r9, r10, r11, r12, r13, r14, r15) := H
  have HC7 := Aside0.mk H
  clear H
  go_enter Try.func9, Try.ntmps9
  go_upto_region 7 with (first | ((with_reducible refine gate_dst (N := 4) rfl ?_); refine box_event ?hg (N := 4) ?hd (cs := #[.int .i64 0, .int .i64 0, .int .i64 0, .int .i64 0, .int .i64 0, .int .i64 0, .int .i64 0, .int .i64 0, .int .i64 0, .int .i64 0, .int .i64 0, .int .i64 0, .int .i64 0, .slice none 0 0]) (t := 36) ?hr ?_; (case hd => rfl); (case hg => rfl); (case hr => first | (go_simp; done) | (go_simp; rfl)); intro gb164 hg w8 hbox hb; have BK164 := Aside0.mk (hbox); have GW164 := gs_ hg; have GE164 := gs_ hg; replace HB := hbs_ hb; clear hb hbox hg) | ((with_reducible refine gate_dst (N := 6) rfl ?_); refine box_event ?hg (N := 6) ?hd (cs := #[.int .i64 0, .int .i64 0, .int .i64 0, .int .i64 0, .int .i64 0, .int .i64 0, .int .i64 0, .int .i64 0, .int .i64 0, .int .i64 0, .int .i64 0, .int .i64 0, .int .i64 0, .slice none 0 0]) (t := 36) ?hr ?_; (case hd => rfl); (case hg => rfl); (case hr => first | (go_simp; done) | (go_simp; rfl)); intro gb165 hg w9 hbox hb; have BK165 := Aside0.mk (hbox); have GW165 := gs_ hg; have GE165 := gs_ hg; replace HB := hbs_ hb; have NB164_165 := Aside0.mk ((by rw [hg]; exact Nat.ne_of_lt (blk_lt (g := gb164) (o := .cells #[.int .i64 0, .int .i64 0, .int .i64 0, .int .i64 0, .int .i64 0, .int .i64 0, .int .i64 0, .int .i64 0, .int .i64 0, .int .i64 0, .int .i64 0, .int .i64 0, .int .i64 0, .slice none 0 0] 36 (0, 0)) (bk_ BK164)) : gb164 ≠ gb165)); have NB165_164 := Aside0.mk ((by rw [hg]; exact Nat.ne_of_gt (blk_lt (g := gb164) (o := .cells #[.int .i64 0, .int .i64 0, .int .i64 0, .int .i64 0, .int .i64 0, .int .i64 0, .int .i64 0, .int .i64 0, .int .i64 0, .int .i64 0, .int .i64 0, .int .i64 0, .int .i64 0, .slice none 0 0] 36 (0, 0)) (bk_ BK164)) : gb165 ≠ gb164)); replace BK164 := bkb_ BK164 hb; clear hb hbox hg; have hnb10 := NB165_164.out; have hnc10 := NB164_165.out; have hcz11 := blk_cell BK165.out; have hfz11 := blk_frozen BK165.out) | ((with_reducible refine gate_callee (f := 15) rfl ?_); refine goesC_ (some 27) Try.func15 #[.string a0, .int .i64 a1] ?_; (with_reducible refine (spec_ReadShort.calls k a0 a1 t166 t167 true _ A3.out).mono ?_); rintro e w12 ⟨rfl, hb⟩; refine ⟨_, rfl, ?_⟩; replace BK164 := Aside0.mk (blk_below (g := gb164) (o := .cells #[.int .i64 0, .int .i64 0, .int .i64 0, .int .i64 0, .int .i64 0, .int .i64 0, .int .i64 0, .int .i64 0, .int .i64 0, .int .i64 0, .int .i64 0, .int .i64 0, .int .i64 0, .slice none 0 0] 36 (0, 0)) (bk_ BK164) hb); replace BK165 := Aside0.mk (blk_below (g := gb165) (o := .cells #[.int .i64 0, .int .i64 0, .int .i64 0, .int .i64 0, .int .i64 0, .int .i64 0, .int .i64 0, .int .i64 0, .int .i64 0, .int .i64 0, .int .i64 0, .int .i64 0, .int .i64 0, .slice none 0 0] 36 (0, 0)) (bk_ BK165) hb); replace HB := hbs_ hb; clear hb) | ((with_reducible refine gate_callee (f := 16) rfl ?_); refine goesC_ (some 36) Try.func16 #[.string t166] ?_; (with_reducible refine (spec_ReadCred.calls k t166 t169 t170 t171 t172 t173 t174 t175 t176 t177 t178 t179 _ A5.out).mono ?_); rintro e w13 ⟨rfl, hb⟩; refine ⟨_, rfl, ?_⟩; replace BK164 := bkb_ BK164 hb; replace BK165 := bkb_ BK165 hb; replace HB := hbs_ hb; clear hb) | ((with_reducible refine gate_dst (N := 10) rfl ?_); refine box_event ?hg (N := 10) ?hd (cs := #[.int .i64 0, .int .i64 0, .int .i64 0, .int .i64 0, .int .i64 0, .int .i64 0, .int .i64 0, .int .i64 0, .int .i64 0, .int .i64 0]) (t := 31) ?hr ?_; (case hd => rfl); (case hg => rfl); (case hr => first | (go_simp; done) | (go_simp; rfl)); intro gb180 hg w14 hbox hb; have BK180 := Aside0.mk (hbox); have GW180 := gs_ hg; have GE180 := gs_ hg; replace HB := hbs_ hb; have NB164_180 := Aside0.mk ((by rw [hg]; exact Nat.ne_of_lt (blk_lt (g := gb164) (o := .cells #[.int .i64 0, .int .i64 0, .int .i64 0, .int .i64 0, .int .i64 0, .int .i64 0, .int .i64 0, .int .i64 0, .int .i64 0, .int .i64 0, .int .i64 0, .int .i64 0, .int .i64 0, .slice none 0 0] 36 (0, 0)) (bk_ BK164)) : gb164 ≠ gb180)); have NB180_164 := Aside0.mk ((by rw [hg]; exact Nat.ne_of_gt (blk_lt (g := gb164) (o := .cells #[.int .i64 0, .int .i64 0, .int .i64 0, .int .i64 0, .int .i64 0, .int .i64 0, .int .i64 0, .int .i64 0, .int .i64 0, .int .i64 0, .int .i64 0, .int .i64 0, .int .i64 0, .slice none 0 0] 36 (0, 0)) (bk_ BK164)) : gb180 ≠ gb164)); replace BK164 := bkb_ BK164 hb; have NB165_180 := Aside0.mk ((by rw [hg]; exact Nat.ne_of_lt (blk_lt (g := gb165) (o := .cells #[.int .i64 0, .int .i64 0, .int .i64 0, .int .i64 0, .int .i64 0, .int .i64 0, .int .i64 0, .int .i64 0, .int .i64 0, .int .i64 0, .int .i64 0, .int .i64 0, .int .i64 0, .slice none 0 0] 36 (0, 0)) (bk_ BK165)) : gb165 ≠ gb180)); have NB180_165 := Aside0.mk ((by rw [hg]; exact Nat.ne_of_gt (blk_lt (g := gb165) (o := .cells #[.int .i64 0, .int .i64 0, .int .i64 0, .int .i64 0, .int .i64 0, .int .i64 0, .int .i64 0, .int .i64 0, .int .i64 0, .int .i64 0, .int .i64 0, .int .i64 0, .int .i64 0, .slice none 0 0] 36 (0, 0)) (bk_ BK165)) : gb180 ≠ gb165)); replace BK165 := bkb_ BK165 hb; clear hb hbox hg; have hnb15 := NB180_164.out; have hnc15 := NB164_180.out; have hnb16 := NB180_165.out; have hnc16 := NB165_180.out; have hcz17 := blk_cell BK180.out; have hfz17 := blk_frozen BK180.out) | ((with_reducible refine gate_callee (f := 17) rfl ?_); refine goesC_ (some 42) Try.func17 #[.string a0, .int .i64 t167] ?_; (with_reducible refine (spec_ReadVar.calls k a0 t167 t181 t182 t183 _ A6.out).mono ?_); rintro e w18 ⟨rfl, hb⟩; refine ⟨_, rfl, ?_⟩; replace BK164 := Aside0.mk (blk_below (g := gb164) (o := .cells #[.int .i64 0, .int .i64 0, .int .i64 0, .int .i64 0, .int .i64 0, .int .i64 0, .int .i64 0, .int .i64 0, .int .i64 0, .int .i64 0, .int .i64 0, .int .i64 0, .int .i64 0, .slice none 0 0] 36 (0, 0)) (bk_ BK164) hb); replace BK165 := Aside0.mk (blk_below (g := gb165) (o := .cells #[.int .i64 0, .int .i64 0, .int .i64 0, .int .i64 0, .int .i64 0, .int .i64 0, .int .i64 0, .int .i64 0, .int .i64 0, .int .i64 0, .int .i64 0, .int .i64 0, .int .i64 0, .slice none 0 0] 36 (0, 0)) (bk_ BK165) hb); replace BK180 := Aside0.mk (blk_below (g := gb180) (o := .cells #[.int .i64 t169, .int .i64 t170, .int .i64 t171, .int .i64 t172, .int .i64 t173, .int .i64 t174, .int .i64 t175, .int .i64 t176, .int .i64 t177, .int .i64 t178] 31 (0, 0)) (bk_ BK180) hb); replace HB := hbs_ hb; clear hb))
  (try simp only [Act.put, List.setIfInBounds_toArray, List.set_cons_zero, List.set_cons_succ])
  go_cut [51] (fun v51 wc => ∃ (kq : Nat) (x51_6 : Bool), v51 = .bool x51_6 ∧ Aside0 (spec_l22Step.j0 kq a0 t181 t182 x51_6 0 0 0 0 0 0 0 0 0 0 0 0 0 t169 t170 t171 t172 t173 t174 t175 t176 t177 t178 = some (r1, r2, r3, r4, r5, r6, r7, r8, r9, r10, r11, r12, r13, r14, r15)) ∧ Aside0 (kq ≤ k) ∧ Aside0 (wc.heap[gb164]? = some (.cells #[.int .i64 0, .int .i64 0, .int .i64 0, .int .i64 0, .int .i64 0, .int .i64 0, .int .i64 0, .int .i64 0, .int .i64 0, .int .i64 0, .int .i64 0, .int .i64 0, .int .i64 0, (.slice none 0 0)] 36 (0, 0))) ∧ Aside0 (wc.heap[gb165]? = some (.cells #[.int .i64 0, .int .i64 0, .int .i64 0, .int .i64 0, .int .i64 0, .int .i64 0, .int .i64 0, .int .i64 0, .int .i64 0, .int .i64 0, .int .i64 0, .int .i64 0, .int .i64 0, (.slice none 0 0)] 36 (0, 0))) ∧ Aside0 (wc.heap[gb180]? = some (.cells #[.int .i64 t169, .int .i64 t170, .int .i64 t171, .int .i64 t172, .int .i64 t173, .int .i64 t174, .int .i64 t175, .int .i64 t176, .int .i64 t177, .int .i64 t178] 31 (0, 0))) ∧ Aside0 (Below w.heap.size w wc))
  case first =>
   have H := HC7.out
   clear HC7
   by_cases c19 : t179 = true
   ·subst c19
    replace H := ite_t_ H
    have H' := Aside0.mk H
    clear H
    go_wp2
    go_meet
    case rel => exact ⟨_, (!t183), (by first | rfl | (simp; done) | (simp [*]; done)), H', ⟨by first | omega | exact Nat.le_refl _⟩, ⟨bk_ BK164⟩, ⟨bk_ BK165⟩, ⟨bk_ BK180⟩, ⟨bl_⟩⟩
   ·replace c19 := Bool.eq_false_iff.mpr c19
    subst c19
    replace H := ite_f_ H
    have H' := Aside0.mk H
    clear H
    go_wp2
    go_meet
    case rel => exact ⟨_, (true), (by first | rfl | (simp; done) | (simp [*]; done)), H', ⟨by first | omega | exact Nat.le_refl _⟩, ⟨bk_ BK164⟩, ⟨bk_ BK165⟩, ⟨bk_ BK180⟩, ⟨bl_⟩⟩
  case rest =>
   clear HC7
   try clear c1
   try clear p2
   try clear c4
   try clear c9
   try clear c10
   try clear c15
   try clear c16
   try clear c17
   try clear c19
   try clear hcz11
   try clear hcz17
   try clear hfz11
   try clear hfz17
   obtain ⟨kq, x51_6, rfl, HA, HJ6, BK164, BK165, BK180, HB⟩ := hcut
   cases kq with
   | zero => exact absurd HA.out (by simp [spec_l22Step.j0])
   | succ kj6 =>
    have H := HA.out
    clear HA
    simp only [spec_l22Step.j0] at H
    by_cases c20 : x51_6 = true
    ·subst c20
     replace H := ite_t_ H
     simp only [Option.some.injEq, Prod.mk.injEq] at H
     obtain ⟨rfl, rfl, rfl, rfl, rfl, rfl, rfl, rfl, rfl, rfl, rfl, rfl, rfl, rfl, rfl⟩ := H
     have hnb21 := NB165_164.out
     have hnc21 := NB164_165.out
     have hnb22 := NB165_180.out
     have hnc22 := NB180_165.out
     have hcz23 := blk_cell BK165.out
     have hfz23 := blk_frozen BK165.out
     have hnb24 := NB164_180.out
     have hnc24 := NB180_164.out
     have hcz25 := blk_cell BK164.out
     have hfz25 := blk_frozen BK164.out
     go_wp2
     refine bodyPost_ret (results_ct rfl _ _ gb164 36 #[.int .i64 0, .int .i64 0, .int .i64 0, .int .i64 0, .int .i64 0, .int .i64 0, .int .i64 0, .int .i64 0, .int .i64 0, .int .i64 0, .int .i64 0, .int .i64 0, .int .i64 0, .slice none 0 0] (0, 0) _ rfl (bk_ BK164) Try.underlying36 rfl (by kernel_rfl)) rfl ?_
     exact ⟨_, eq_, by first | exact Kd.R_nil _ _ _ _ _ | exact Kd.N_nil _ _ _ _ _ | exact Kd.V_nil _ _ _ _ _ | exact Kd.Q_nil _ _ _ _ _ | exact Kd.S_nil _ _ _ _ _, bl_⟩
    ·replace c20 := Bool.eq_false_iff.mpr c20
     subst c20
     replace H := ite_f_ H
     obtain ⟨⟨t184, t185, t186⟩, A26, H⟩ := bindE_ H
     replace H : (if t186 = true then (spec_l22Step.j1 kj6 a0 t181 t184 t185 (decide (t184 > 2)) 0 0 0 0 0 0 0 0 0 0 0 0 0 t169 t170 t171 t172 t173 t174 t175 t176 t177 t178) else (spec_l22Step.j1 kj6 a0 t181 t184 t185 true 0 0 0 0 0 0 0 0 0 0 0 0 0 t169 t170 t171 t172 t173 t174 t175 t176 t177 t178)) = some (r1, r2, r3, r4, r5, r6, r7, r8, r9, r10, r11, r12, r13, r14, r15) := H
     have HC27 := Aside0.mk H
     clear H
     go_upto_region 10 with (first | ((with_reducible refine gate_callee (f := 17) rfl ?_); refine goesC_ (some 56) Try.func17 #[.string a0, .int .i64 t182] ?_; (with_reducible refine (spec_ReadVar.calls kj6 a0 t182 t184 t185 t186 _ A26.out).mono ?_); rintro e w28 ⟨rfl, hb⟩; refine ⟨_, rfl, ?_⟩; replace BK164 := bkb_ BK164 hb; replace BK165 := bkb_ BK165 hb; replace BK180 := bkb_ BK180 hb; replace HB := hbs_ hb; clear hb))
     (try simp only [Act.put, List.setIfInBounds_toArray, List.set_cons_zero, List.set_cons_succ])
     go_cut [65] (fun v65 wc => ∃ (kq : Nat) (x65_26 : Bool), v65 = .bool x65_26 ∧ Aside0 (spec_l22Step.j1 kq a0 t181 t184 t185 x65_26 0 0 0 0 0 0 0 0 0 0 0 0 0 t169 t170 t171 t172 t173 t174 t175 t176 t177 t178 = some (r1, r2, r3, r4, r5, r6, r7, r8, r9, r10, r11, r12, r13, r14, r15)) ∧ Aside0 (kq ≤ kj6) ∧ Aside0 (wc.heap[gb164]? = some (.cells #[.int .i64 0, .int .i64 0, .int .i64 0, .int .i64 0, .int .i64 0, .int .i64 0, .int .i64 0, .int .i64 0, .int .i64 0, .int .i64 0, .int .i64 0, .int .i64 0, .int .i64 0, (.slice none 0 0)] 36 (0, 0))) ∧ Aside0 (wc.heap[gb165]? = some (.cells #[.int .i64 0, .int .i64 0, .int .i64 0, .int .i64 0, .int .i64 0, .int .i64 0, .int .i64 0, .int .i64 0, .int .i64 0, .int .i64 0, .int .i64 0, .int .i64 0, .int .i64 0, (.slice none 0 0)] 36 (0, 0))) ∧ Aside0 (wc.heap[gb180]? = some (.cells #[.int .i64 t169, .int .i64 t170, .int .i64 t171, .int .i64 t172, .int .i64 t173, .int .i64 t174, .int .i64 t175, .int .i64 t176, .int .i64 t177, .int .i64 t178] 31 (0, 0))) ∧ Aside0 (Below w.heap.size w wc))
     case first =>
      have H := HC27.out
      clear HC27
      by_cases c29 : t186 = true
      ·subst c29
       replace H := ite_t_ H
       have H' := Aside0.mk H
       clear H
       go_wp2
       go_meet
       case rel => exact ⟨_, (decide (t184 > 2)), (by first | rfl | (simp; done) | (simp [*]; done)), H', ⟨by have := HJ6.out; first | omega | exact Nat.le_refl _⟩, ⟨bk_ BK164⟩, ⟨bk_ BK165⟩, ⟨bk_ BK180⟩, ⟨bl_⟩⟩
      ·replace c29 := Bool.eq_false_iff.mpr c29
       subst c29
       replace H := ite_f_ H
       have H' := Aside0.mk H
       clear H
       go_wp2
       go_meet
       case rel => exact ⟨_, (true), (by first | rfl | (simp; done) | (simp [*]; done)), H', ⟨by have := HJ6.out; first | omega | exact Nat.le_refl _⟩, ⟨bk_ BK164⟩, ⟨bk_ BK165⟩, ⟨bk_ BK180⟩, ⟨bl_⟩⟩
     case rest =>
      clear HC27
      try clear c1
      try clear c2
      try clear p2
      try clear c4
      try clear c9
      try clear c10
      try clear c15
      try clear c16
      try clear c17
      try clear c19
      try clear c20
      try clear c21
      try clear c22
      try clear c24
      try clear c29
      try clear hcz11
      try clear hcz17
      try clear hcz23
      try clear hcz25
      try clear hfz11
      try clear hfz17
      try clear hfz23
      try clear hfz25
      try clear p2
      obtain ⟨kq, x65_26, rfl, HA, HJ26, BK164, BK165, BK180, HB⟩ := hcut
      cases kq with
      | zero => exact absurd HA.out (by simp [spec_l22Step.j1])
      | succ kj26 =>
       have H := HA.out
       clear HA
       simp only [spec_l22Step.j1] at H
       by_cases c30 : x65_26 = true
       ·subst c30
        replace H := ite_t_ H
        simp only [Option.some.injEq, Prod.mk.injEq] at H
        obtain ⟨rfl, rfl, rfl, rfl, rfl, rfl, rfl, rfl, rfl, rfl, rfl, rfl, rfl, rfl, rfl⟩ := H
        have hnb31 := NB165_164.out
        have hnc31 := NB164_165.out
        have hnb32 := NB165_180.out
        have hnc32 := NB180_165.out
        have hcz33 := blk_cell BK165.out
        have hfz33 := blk_frozen BK165.out
        have hnb34 := NB164_180.out
        have hnc34 := NB180_164.out
        have hcz35 := blk_cell BK164.out
        have hfz35 := blk_frozen BK164.out
        go_wp2
        refine bodyPost_ret (results_ct rfl _ _ gb164 36 #[.int .i64 0, .int .i64 0, .int .i64 0, .int .i64 0, .int .i64 0, .int .i64 0, .int .i64 0, .int .i64 0, .int .i64 0, .int .i64 0, .int .i64 0, .int .i64 0, .int .i64 0, .slice none 0 0] (0, 0) _ rfl (bk_ BK164) Try.underlying36 rfl (by kernel_rfl)) rfl ?_
        exact ⟨_, eq_, by first | exact Kd.R_nil _ _ _ _ _ | exact Kd.N_nil _ _ _ _ _ | exact Kd.V_nil _ _ _ _ _ | exact Kd.Q_nil _ _ _ _ _ | exact Kd.S_nil _ _ _ _ _, bl_⟩
       ·replace c30 := Bool.eq_false_iff.mpr c30
        subst c30
        replace H := ite_f_ H
        obtain ⟨y187, hy187⟩ : ∃ y_ : List Int, y_ = (([] : List Int)) := ⟨_, rfl⟩
        replace H : (spec_l22Step.l0 kj26 a0 t184 t185 0 0 0 0 0 0 0 0 0 0 0 0 0 0 t169 t170 t171 t172 t173 t174 t175 t176 t177 t178 t170 t171 t181 y187) = some (r1, r2, r3, r4, r5, r6, r7, r8, r9, r10, r11, r12, r13, r14, r15) := by first | (rw [hy187]; with_reducible exact H) | (have H2_ := (Option.bind_some _ _).symm.trans H; rw [hy187]; with_reducible exact H2_) | (have H2_ := (Option.bind_some _ _).symm.trans H; with_reducible exact H2_) | with_reducible exact H | (rw [hy187]; exact H) | exact H
        have Ny187 := Aside0.mk hy187
        clear hy187
        have H' := Aside0.mk H
        clear H
        have hnb36 := NB180_164.out
        have hnc36 := NB164_180.out
        have hnb37 := NB180_165.out
        have hnc37 := NB165_180.out
        have hcz38 := blk_cell BK180.out
        have hfz38 := blk_frozen BK180.out
        go_wp2_with (first | ((with_reducible refine gate_dst (N := 72) rfl ?_); refine Kd.R_lit (Kd.int .i64) _ 3 ?hg (N := 72) ?hd (xs := ([] : List Int)) (inner := []) (ok := fun _ => True) (okp := fun _ => True) ?hr ?hp (fun _ hk => hk) trivial (Below.refl _ _) (Nat.le_refl _) (by simp) ?_; (case hd => rfl); (case hg => rfl); (case hr => first | (go_simp; done) | (go_simp; rfl)); (case hp => exact (Reps.none _ _)); intro v188 w39 ho40 hb hg_ hnew_; clear hg_ hnew_; (first | rw [← Ny187.out] at ho40 | (simp only [Int.reduceToNat] at ho40; rw [← Ny187.out] at ho40)); have HO189 := Aside0.mk (Kd.R_lower ho40 bls_); replace BK164 := bkb_ BK164 hb; replace BK165 := bkb_ BK165 hb; replace BK180 := bkb_ BK180 hb; replace HB := hbs_ hb; clear hb ho40; obtain ⟨Ao41, co41, eo41⟩ := Kd.R_slice HO189.out; subst eo41) | ((with_reducible refine gate_dst (N := 18) rfl ?_); refine box_event ?hg (N := 18) ?hd (cs := #[.int .i64 0, .int .i64 0, .int .i64 0, .int .i64 0, .int .i64 0, .int .i64 0, .int .i64 0, .int .i64 0, .int .i64 0, .int .i64 0, .int .i64 0, .int .i64 0, .int .i64 0, .slice none 0 0]) (t := 36) ?hr ?_; (case hd => rfl); (case hg => rfl); (case hr => first | (go_simp; done) | (go_simp; rfl)); intro gb190 hg w42 hbox hb; replace HO189 := Aside0.mk (Kd.R_below (by (with_reducible repeat (first | apply Kd.R_alloc | apply Kd.R_drewN | apply Kd.R_drew)); exact HO189.out) hb); have BK190 := Aside0.mk (hbox); have GW190 := gs_ hg; have GE190 := gs_ hg; replace HB := hbs_ hb; have NB164_190 := Aside0.mk ((by rw [hg]; exact Nat.ne_of_lt (blk_lt (g := gb164) (o := .cells #[.int .i64 0, .int .i64 0, .int .i64 0, .int .i64 0, .int .i64 0, .int .i64 0, .int .i64 0, .int .i64 0, .int .i64 0, .int .i64 0, .int .i64 0, .int .i64 0, .int .i64 0, .slice none 0 0] 36 (0, 0)) (bk_ BK164)) : gb164 ≠ gb190)); have NB190_164 := Aside0.mk ((by rw [hg]; exact Nat.ne_of_gt (blk_lt (g := gb164) (o := .cells #[.int .i64 0, .int .i64 0, .int .i64 0, .int .i64 0, .int .i64 0, .int .i64 0, .int .i64 0, .int .i64 0, .int .i64 0, .int .i64 0, .int .i64 0, .int .i64 0, .int .i64 0, .slice none 0 0] 36 (0, 0)) (bk_ BK164)) : gb190 ≠ gb164)); replace BK164 := bkb_ BK164 hb; have NB165_190 := Aside0.mk ((by rw [hg]; exact Nat.ne_of_lt (blk_lt (g := gb165) (o := .cells #[.int .i64 0, .int .i64 0, .int .i64 0, .int .i64 0, .int .i64 0, .int .i64 0, .int .i64 0, .int .i64 0, .int .i64 0, .int .i64 0, .int .i64 0, .int .i64 0, .int .i64 0, .slice none 0 0] 36 (0, 0)) (bk_ BK165)) : gb165 ≠ gb190)); have NB190_165 := Aside0.mk ((by rw [hg]; exact Nat.ne_of_gt (blk_lt (g := gb165) (o := .cells #[.int .i64 0, .int .i64 0, .int .i64 0, .int .i64 0, .int .i64 0, .int .i64 0, .int .i64 0, .int .i64 0, .int .i64 0, .int .i64 0, .int .i64 0, .int .i64 0, .int .i64 0, .slice none 0 0] 36 (0, 0)) (bk_ BK165)) : gb190 ≠ gb165)); replace BK165 := bkb_ BK165 hb; have NB180_190 := Aside0.mk ((by rw [hg]; exact Nat.ne_of_lt (blk_lt (g := gb180) (o := .cells #[.int .i64 t169, .int .i64 t170, .int .i64 t171, .int .i64 t172, .int .i64 t173, .int .i64 t174, .int .i64 t175, .int .i64 t176, .int .i64 t177, .int .i64 t178] 31 (0, 0)) (bk_ BK180)) : gb180 ≠ gb190)); have NB190_180 := Aside0.mk ((by rw [hg]; exact Nat.ne_of_gt (blk_lt (g := gb180) (o := .cells #[.int .i64 t169, .int .i64 t170, .int .i64 t171, .int .i64 t172, .int .i64 t173, .int .i64 t174, .int .i64 t175, .int .i64 t176, .int .i64 t177, .int .i64 t178] 31 (0, 0)) (bk_ BK180)) : gb190 ≠ gb180)); replace BK180 := bkb_ BK180 hb; clear hb hbox hg; have hnb43 := NB190_164.out; have hnc43 := NB164_190.out; have hnb44 := NB190_165.out; have hnc44 := NB165_190.out; have hnb45 := NB190_180.out; have hnc45 := NB180_190.out; have hcz46 := blk_cell BK190.out; have hfz46 := blk_frozen BK190.out))
        go_loopg [16, 19] kj26 (fun kq v16 v19 w' => ∃ (x16_3 : Int) (x19_3 : Int) (x165000_3 : Int) (x165001_3 : Int) (x165002_3 : Int) (x165003_3 : Int) (x165004_3 : Int) (x165005_3 : Int) (x165006_3 : Int) (x165007_3 : Int) (x165008_3 : Int) (x165009_3 : Int) (x165010_3 : Int) (x165011_3 : Int) (x165012_3 : Int) (x191013_3 : List Int) (u191013 : Value), v16 = .int .i64 x16_3 ∧ v19 = .int .i64 x19_3 ∧ Aside0 (spec_l22Step.l0 kq a0 t184 x16_3 x19_3 0 0 0 0 0 0 0 0 0 0 0 0 0 t169 t170 t171 t172 t173 t174 t175 t176 t177 t178 t170 t171 t181 x191013_3 = some (r1, r2, r3, r4, r5, r6, r7, r8, r9, r10, r11, r12, r13, r14, r15)) ∧ Aside0 (kq ≤ kj26) ∧ Aside0 (Kd.R (Kd.int .i64) 3 w' w.heap.size (fun _ => True) u191013 x191013_3) ∧ Aside0 (w'.heap[gb164]? = some (.cells #[.int .i64 x165000_3, .int .i64 x165001_3, .int .i64 x165002_3, .int .i64 x165003_3, .int .i64 x165004_3, .int .i64 x165005_3, .int .i64 x165006_3, .int .i64 x165007_3, .int .i64 x165008_3, .int .i64 x165009_3, .int .i64 x165010_3, .int .i64 x165011_3, .int .i64 x165012_3, (.slice none 0 0)] 36 (0, 0))) ∧ Aside0 (w'.heap[gb165]? = some (.cells #[.int .i64 0, .int .i64 0, .int .i64 0, .int .i64 0, .int .i64 0, .int .i64 0, .int .i64 0, .int .i64 0, .int .i64 0, .int .i64 0, .int .i64 0, .int .i64 0, .int .i64 0, (.slice none 0 0)] 36 (0, 0))) ∧ Aside0 (w'.heap[gb180]? = some (.cells #[.int .i64 t169, .int .i64 t170, .int .i64 t171, .int .i64 t172, .int .i64 t173, .int .i64 t174, .int .i64 t175, .int .i64 t176, .int .i64 t177, .int .i64 t178] 31 (0, 0))) ∧ Aside0 (w'.heap[gb190]? = some (.cells #[.int .i64 t169, .int .i64 t170, .int .i64 t171, .int .i64 t172, .int .i64 t173, .int .i64 t174, .int .i64 t175, .int .i64 t176, .int .i64 t177, .int .i64 t178, .int .i64 t170, .int .i64 t171, .int .i64 t181, u191013] 36 (0, 0))) ∧ Aside0 (Below w.heap.size w w'))
        case atStart => exact ⟨(t185), (0), (0), (0), (0), (0), (0), (0), (0), (0), (0), (0), (0), (0), (0), (y187), (.slice Ao41 y187.length co41), (by first | rfl | (simp; done) | (simp [*]; done)), (by first | rfl | (simp; done) | (simp [*]; done)), H', ⟨Nat.le_refl _⟩, ⟨by (with_reducible repeat (first | apply Kd.R_alloc | apply Kd.R_drewN | apply Kd.R_drew)); exact Kd.R_mono (Kd.R_far (p := ⟨gb190, 13, none⟩) (Kd.R_far (p := ⟨gb190, 12, none⟩) (Kd.R_far (p := ⟨gb190, 11, none⟩) (Kd.R_far (p := ⟨gb190, 10, none⟩) (Kd.R_far (p := ⟨gb190, 9, none⟩) (Kd.R_far (p := ⟨gb190, 8, none⟩) (Kd.R_far (p := ⟨gb190, 7, none⟩) (Kd.R_far (p := ⟨gb190, 6, none⟩) (Kd.R_far (p := ⟨gb190, 5, none⟩) (Kd.R_far (p := ⟨gb190, 4, none⟩) (Kd.R_far (p := ⟨gb190, 3, none⟩) (Kd.R_far (p := ⟨gb190, 2, none⟩) (Kd.R_far (p := ⟨gb190, 1, none⟩) (Kd.R_far (p := ⟨gb190, 0, none⟩) (Kd.R_types HO189.out BK190.out (by decide)) (fun _ hk => hk.2) (.int .i64 t169)) (fun _ hk => hk.2) (.int .i64 t170)) (fun _ hk => hk.2) (.int .i64 t171)) (fun _ hk => hk.2) (.int .i64 t172)) (fun _ hk => hk.2) (.int .i64 t173)) (fun _ hk => hk.2) (.int .i64 t174)) (fun _ hk => hk.2) (.int .i64 t175)) (fun _ hk => hk.2) (.int .i64 t176)) (fun _ hk => hk.2) (.int .i64 t177)) (fun _ hk => hk.2) (.int .i64 t178)) (fun _ hk => hk.2) (.int .i64 t170)) (fun _ hk => hk.2) (.int .i64 t171)) (fun _ hk => hk.2) (.int .i64 t181)) (fun _ hk => hk.2) (.slice Ao41 y187.length co41)) (fun _ hk => trivial)⟩, ⟨bk_ BK164⟩, ⟨bk_ BK165⟩, ⟨bk_ BK180⟩, ⟨bk_ BK190⟩, ⟨bl_⟩⟩
        case round =>
         clear H'
         try clear c1
         try clear c2
         try clear p2
         try clear c3
         try clear c4
         try clear c9
         try clear c10
         try clear c15
         try clear c16
         try clear c17
         try clear c19
         try clear c20
         try clear c21
         try clear c22
         try clear c24
         try clear c29
         try clear c30
         try clear c31
         try clear c32
         try clear c34
         try clear c36
         try clear c37
         try clear c43
         try clear c44
         try clear c45
         try clear hcz11
         try clear hcz17
         try clear hcz23
         try clear hcz25
         try clear hcz33
         try clear hcz35
         try clear hcz38
         try clear hcz46
         try clear hfz11
         try clear hfz17
         try clear hfz23
         try clear hfz25
         try clear hfz33
         try clear hfz35
         try clear hfz38
         try clear hfz46
         try clear p2
         obtain ⟨x16_3, x19_3, x165000_3, x165001_3, x165002_3, x165003_3, x165004_3, x165005_3, x165006_3, x165007_3, x165008_3, x165009_3, x165010_3, x165011_3, x165012_3, x191013_3, u191013, rfl, rfl, HA, HK3, HO_191013, BK164, BK165, BK180, BK190, HB⟩ := hrel
         cases gk with
         | zero => exact absurd HA.out (by simp [spec_l22Step.l0])
         | succ k3 =>
          have H := HA.out
          clear HA
          simp only [spec_l22Step.l0] at H
          by_cases c47 : x19_3 < t184
          ·rw [if_pos c47] at H
           have c47b0 : decide (x19_3 < t184) = true := decide_eq_true c47
           clear c47
           obtain ⟨⟨t191, t192, t193⟩, A48, H⟩ := bindE_ H
           replace H : (if t193 = true then (if x191013_3.length < 17592186044416 then (spec_l22Step.l0 k3 a0 t184 t192 (wrap64 (x19_3 + 1)) 0 0 0 0 0 0 0 0 0 0 0 0 0 t169 t170 t171 t172 t173 t174 t175 t176 t177 t178 t170 t171 t181 (x191013_3 ++ [t191])) else (none)) else (some (0, 0, 0, 0, 0, 0, 0, 0, 0, 0, 0, 0, 0, ([] : List Int), (-1)))) = some (r1, r2, r3, r4, r5, r6, r7, r8, r9, r10, r11, r12, r13, r14, r15) := H
           by_cases c49 : t193 = true
           ·subst c49
            replace H := ite_t_ H
            by_cases c50 : x191013_3.length < 17592186044416
            ·rw [if_pos c50] at H
             have LMc50 := Aside0.mk c50
             clear c50
             obtain ⟨y194, hy194⟩ : ∃ y_ : List Int, y_ = (x191013_3 ++ [t191]) := ⟨_, rfl⟩
             replace H : (spec_l22Step.l0 k3 a0 t184 t192 (wrap64 (x19_3 + 1)) 0 0 0 0 0 0 0 0 0 0 0 0 0 t169 t170 t171 t172 t173 t174 t175 t176 t177 t178 t170 t171 t181 y194) = some (r1, r2, r3, r4, r5, r6, r7, r8, r9, r10, r11, r12, r13, r14, r15) := by first | (rw [hy194]; with_reducible exact H) | (have H2_ := (Option.bind_some _ _).symm.trans H; rw [hy194]; with_reducible exact H2_) | (have H2_ := (Option.bind_some _ _).symm.trans H; with_reducible exact H2_) | with_reducible exact H | (rw [hy194]; exact H) | exact H
             have Ny194 := Aside0.mk hy194
             clear hy194
             have H' := Aside0.mk H
             clear H
             go_wp2_with (first | ((with_reducible refine gate_callee (f := 17) rfl ?_); refine goesC_ (some 82) Try.func17 #[.string a0, .int .i64 x16_3] ?_; (with_reducible refine (spec_ReadVar.calls k3 a0 x16_3 t191 t192 true _ A48.out).mono ?_); rintro e w51 ⟨rfl, hb⟩; refine ⟨_, rfl, ?_⟩; replace HO_191013 := Aside0.mk (Kd.R_below (by (with_reducible repeat (first | apply Kd.R_alloc | apply Kd.R_drewN | apply Kd.R_drew)); exact HO_191013.out) hb); replace BK164 := bkb_ BK164 hb; replace BK165 := bkb_ BK165 hb; replace BK180 := bkb_ BK180 hb; replace BK190 := bkb_ BK190 hb; replace HB := hbs_ hb; clear hb; have hnb52 := NB190_164.out; have hnc52 := NB164_190.out; have hnb53 := NB190_165.out; have hnc53 := NB165_190.out; have hnb54 := NB190_180.out; have hnc54 := NB180_190.out; have hcz55 := blk_cell BK190.out; have hfz55 := blk_frozen BK190.out) | ((with_reducible refine gate_builtin (b := .append) (xs := #[.tmp 90, .tmp 92]) rfl ?_); at_builtin; refine Kd.R_append (Kd.int .i64) (w0 := w) w.heap.size rfl (.tmp 90) (.tmp 92) 34 3 (.int .i64 0) 8 rfl Try.underlying34 info3 rfl (by decide) (by omega) u191013 x191013_3 t191 [.int .i64 t191] (fun _ => True) (fun _ => False) rfl rfl ?aP (fun _ hk => hk.elim) ?aF ?aO ?aB ?aS ?aL ?_; (case aP => exact rfl); (case aB => exact bl_); (case aF => exact (fun _ _ => trivial)); (case aO => exact (by (with_reducible repeat (first | apply Kd.R_alloc | apply Kd.R_drewN | apply Kd.R_drew)); exact HO_191013.out)); (case aS => exact bls_); (case aL => have := LMc50.out; omega); intro v195 w56 ho hb hg hat; rw [← Ny194.out] at ho; replace BK164 := Aside0.mk (blk_grown (g := gb164) (o := .cells #[.int .i64 x165000_3, .int .i64 x165001_3, .int .i64 x165002_3, .int .i64 x165003_3, .int .i64 x165004_3, .int .i64 x165005_3, .int .i64 x165006_3, .int .i64 x165007_3, .int .i64 x165008_3, .int .i64 x165009_3, .int .i64 x165010_3, .int .i64 x165011_3, .int .i64 x165012_3, .slice none 0 0] 36 (0, 0)) (bk_ BK164) hg (Kd.R_ne HO_191013.out BK164.out (by decide))); replace BK165 := Aside0.mk (blk_grown (g := gb165) (o := .cells #[.int .i64 0, .int .i64 0, .int .i64 0, .int .i64 0, .int .i64 0, .int .i64 0, .int .i64 0, .int .i64 0, .int .i64 0, .int .i64 0, .int .i64 0, .int .i64 0, .int .i64 0, .slice none 0 0] 36 (0, 0)) (bk_ BK165) hg (Kd.R_ne HO_191013.out BK165.out (by decide))); replace BK180 := Aside0.mk (blk_grown (g := gb180) (o := .cells #[.int .i64 t169, .int .i64 t170, .int .i64 t171, .int .i64 t172, .int .i64 t173, .int .i64 t174, .int .i64 t175, .int .i64 t176, .int .i64 t177, .int .i64 t178] 31 (0, 0)) (bk_ BK180) hg (Kd.R_ne HO_191013.out BK180.out (by decide))); replace BK190 := Aside0.mk (blk_grown (g := gb190) (o := .cells #[.int .i64 t169, .int .i64 t170, .int .i64 t171, .int .i64 t172, .int .i64 t173, .int .i64 t174, .int .i64 t175, .int .i64 t176, .int .i64 t177, .int .i64 t178, .int .i64 t170, .int .i64 t171, .int .i64 t181, u191013] 36 (0, 0)) (bk_ BK190) hg (Kd.R_ne HO_191013.out BK190.out (by decide))); replace HB := Aside0.mk (hb); have HO196 := Aside0.mk (ho); clear HO_191013; clear ho hb hg hat; obtain ⟨Ao57, co57, eo57⟩ := Kd.R_slice HO196.out; subst eo57; have hcz58 := blk_cell BK190.out; have hfz58 := blk_frozen BK190.out))
             go_roundg k3
             case measure => have := HJ6.out; have := HJ26.out; have := HK3.out; omega
             case rel => exact ⟨(t192), (wrap64 (x19_3 + 1)), (x165000_3), (x165001_3), (x165002_3), (x165003_3), (x165004_3), (x165005_3), (x165006_3), (x165007_3), (x165008_3), (x165009_3), (x165010_3), (x165011_3), (x165012_3), (y194), (.slice Ao57 y194.length co57), (by first | rfl | (simp; done) | (simp [*]; done)), (by first | rfl | (simp; done) | (simp [*]; done)), H', ⟨by have := HJ6.out; have := HJ26.out; have := HK3.out; omega⟩, ⟨by (with_reducible repeat (first | apply Kd.R_alloc | apply Kd.R_drewN | apply Kd.R_drew)); exact Kd.R_mono (Kd.R_far (p := ⟨gb190, 13, none⟩) (Kd.R_types HO196.out BK190.out (by decide)) (fun _ hk => hk.2) (.slice Ao57 y194.length co57)) (fun _ hk => trivial)⟩, ⟨bk_ BK164⟩, ⟨bk_ BK165⟩, ⟨bk_ BK180⟩, ⟨bk_ BK190⟩, ⟨bl_⟩⟩
            ·rw [if_neg c50] at H
             exact absurd H (by simp)
           ·replace c49 := Bool.eq_false_iff.mpr c49
            subst c49
            replace H := ite_f_ H
            simp only [Option.some.injEq, Prod.mk.injEq] at H
            obtain ⟨rfl, rfl, rfl, rfl, rfl, rfl, rfl, rfl, rfl, rfl, rfl, rfl, rfl, rfl, rfl⟩ := H
            go_wp2_with (first | ((with_reducible refine gate_callee (f := 17) rfl ?_); refine goesC_ (some 82) Try.func17 #[.string a0, .int .i64 x16_3] ?_; (with_reducible refine (spec_ReadVar.calls k3 a0 x16_3 t191 t192 false _ A48.out).mono ?_); rintro e w59 ⟨rfl, hb⟩; refine ⟨_, rfl, ?_⟩; replace HO_191013 := Aside0.mk (Kd.R_below (by (with_reducible repeat (first | apply Kd.R_alloc | apply Kd.R_drewN | apply Kd.R_drew)); exact HO_191013.out) hb); replace BK164 := bkb_ BK164 hb; replace BK165 := bkb_ BK165 hb; replace BK180 := bkb_ BK180 hb; replace BK190 := bkb_ BK190 hb; replace HB := hbs_ hb; clear hb; have hnb60 := NB165_164.out; have hnc60 := NB164_165.out; have hnb61 := NB165_180.out; have hnc61 := NB180_165.out; have hnb62 := NB165_190.out; have hnc62 := NB190_165.out; have hcz63 := blk_cell BK165.out; have hfz63 := blk_frozen BK165.out; have hnb64 := NB164_180.out; have hnc64 := NB180_164.out; have hnb65 := NB164_190.out; have hnc65 := NB190_164.out; have hcz66 := blk_cell BK164.out; have hfz66 := blk_frozen BK164.out))
            refine bodyPost_ret (results_ct rfl _ _ gb164 36 #[.int .i64 0, .int .i64 0, .int .i64 0, .int .i64 0, .int .i64 0, .int .i64 0, .int .i64 0, .int .i64 0, .int .i64 0, .int .i64 0, .int .i64 0, .int .i64 0, .int .i64 0, .slice none 0 0] (0, 0) _ rfl (bk_ BK164) Try.underlying36 rfl (by kernel_rfl)) rfl ?_
            exact ⟨_, eq_, by first | exact Kd.R_nil _ _ _ _ _ | exact Kd.N_nil _ _ _ _ _ | exact Kd.V_nil _ _ _ _ _ | exact Kd.Q_nil _ _ _ _ _ | exact Kd.S_nil _ _ _ _ _, bl_⟩
          ·rw [if_neg c47] at H
           have c47b0 : decide (x19_3 < t184) = false := decide_eq_false c47
           clear c47
           simp only [Option.some.injEq, Prod.mk.injEq] at H
           obtain ⟨rfl, rfl, rfl, rfl, rfl, rfl, rfl, rfl, rfl, rfl, rfl, rfl, rfl, rfl, rfl⟩ := H
           have hnb67 := NB190_164.out
           have hnc67 := NB164_190.out
           have hnb68 := NB190_165.out
           have hnc68 := NB165_190.out
           have hnb69 := NB190_180.out
           have hnc69 := NB180_190.out
           have hcz70 := blk_cell BK190.out
           have hfz70 := blk_frozen BK190.out
           have hnb71 := NB164_165.out
           have hnc71 := NB165_164.out
           have hnb72 := NB164_180.out
           have hnc72 := NB180_164.out
           have hcz73 := blk_cell BK164.out
           have hfz73 := blk_frozen BK164.out
           obtain ⟨Ao74, co74, eo74⟩ := Kd.R_slice HO_191013.out
           subst eo74
           go_wp2
           refine bodyPost_ret (results_ct rfl _ _ gb164 36 #[.int .i64 t169, .int .i64 t170, .int .i64 t171, .int .i64 t172, .int .i64 t173, .int .i64 t174, .int .i64 t175, .int .i64 t176, .int .i64 t177, .int .i64 t178, .int .i64 t170, .int .i64 t171, .int .i64 t181, .slice Ao74 x191013_3.length co74] (0, 0) _ rfl (bk_ BK164) Try.underlying36 rfl (by kernel_rfl)) rfl ?_
           exact ⟨_, eq_, by (with_reducible repeat (first | apply Kd.R_alloc | apply Kd.R_drewN | apply Kd.R_drew)); exact Kd.R_mono (Kd.R_far (p := ⟨gb164, 13, none⟩) (Kd.R_far (p := ⟨gb164, 12, none⟩) (Kd.R_far (p := ⟨gb164, 11, none⟩) (Kd.R_far (p := ⟨gb164, 10, none⟩) (Kd.R_far (p := ⟨gb164, 9, none⟩) (Kd.R_far (p := ⟨gb164, 8, none⟩) (Kd.R_far (p := ⟨gb164, 7, none⟩) (Kd.R_far (p := ⟨gb164, 6, none⟩) (Kd.R_far (p := ⟨gb164, 5, none⟩) (Kd.R_far (p := ⟨gb164, 4, none⟩) (Kd.R_far (p := ⟨gb164, 3, none⟩) (Kd.R_far (p := ⟨gb164, 2, none⟩) (Kd.R_far (p := ⟨gb164, 1, none⟩) (Kd.R_far (p := ⟨gb164, 0, none⟩) (Kd.R_types HO_191013.out BK164.out (by decide)) (fun _ hk => hk.2) (.int .i64 t169)) (fun _ hk => hk.2) (.int .i64 t170)) (fun _ hk => hk.2) (.int .i64 t171)) (fun _ hk => hk.2) (.int .i64 t172)) (fun _ hk => hk.2) (.int .i64 t173)) (fun _ hk => hk.2) (.int .i64 t174)) (fun _ hk => hk.2) (.int .i64 t175)) (fun _ hk => hk.2) (.int .i64 t176)) (fun _ hk => hk.2) (.int .i64 t177)) (fun _ hk => hk.2) (.int .i64 t178)) (fun _ hk => hk.2) (.int .i64 t170)) (fun _ hk => hk.2) (.int .i64 t171)) (fun _ hk => hk.2) (.int .i64 t181)) (fun _ hk => hk.2) (.slice Ao74 x191013_3.length co74)) (fun _ hk => trivial), bl_⟩
 ·replace c4 := Bool.eq_false_iff.mpr c4
  subst c4
  replace H := ite_f_ H
  simp only [Option.some.injEq, Prod.mk.injEq] at H
  obtain ⟨rfl, rfl, rfl, rfl, rfl, rfl, rfl, rfl, rfl, rfl, rfl, rfl, rfl, rfl, rfl⟩ := H
  go_enter Try.func9, Try.ntmps9
  go_wp2_with (first | ((with_reducible refine gate_dst (N := 4) rfl ?_); refine box_event ?hg (N := 4) ?hd (cs := #[.int .i64 0, .int .i64 0, .int .i64 0, .int .i64 0, .int .i64 0, .int .i64 0, .int .i64 0, .int .i64 0, .int .i64 0, .int .i64 0, .int .i64 0, .int .i64 0, .int .i64 0, .slice none 0 0]) (t := 36) ?hr ?_; (case hd => rfl); (case hg => rfl); (case hr => first | (go_simp; done) | (go_simp; rfl)); intro gb164 hg w75 hbox hb; have BK164 := Aside0.mk (hbox); have GW164 := gs_ hg; have GE164 := gs_ hg; replace HB := hbs_ hb; clear hb hbox hg) | ((with_reducible refine gate_dst (N := 6) rfl ?_); refine box_event ?hg (N := 6) ?hd (cs := #[.int .i64 0, .int .i64 0, .int .i64 0, .int .i64 0, .int .i64 0, .int .i64 0, .int .i64 0, .int .i64 0, .int .i64 0, .int .i64 0, .int .i64 0, .int .i64 0, .int .i64 0, .slice none 0 0]) (t := 36) ?hr ?_; (case hd => rfl); (case hg => rfl); (case hr => first | (go_simp; done) | (go_simp; rfl)); intro gb165 hg w76 hbox hb; have BK165 := Aside0.mk (hbox); have GW165 := gs_ hg; have GE165 := gs_ hg; replace HB := hbs_ hb; have NB164_165 := Aside0.mk ((by rw [hg]; exact Nat.ne_of_lt (blk_lt (g := gb164) (o := .cells #[.int .i64 0, .int .i64 0, .int .i64 0, .int .i64 0, .int .i64 0, .int .i64 0, .int .i64 0, .int .i64 0, .int .i64 0, .int .i64 0, .int .i64 0, .int .i64 0, .int .i64 0, .slice none 0 0] 36 (0, 0)) (bk_ BK164)) : gb164 ≠ gb165)); have NB165_164 := Aside0.mk ((by rw [hg]; exact Nat.ne_of_gt (blk_lt (g := gb164) (o := .cells #[.int .i64 0, .int .i64 0, .int .i64 0, .int .i64 0, .int .i64 0, .int .i64 0, .int .i64 0, .int .i64 0, .int .i64 0, .int .i64 0, .int .i64 0, .int .i64 0, .int .i64 0, .slice none 0 0] 36 (0, 0)) (bk_ BK164)) : gb165 ≠ gb164)); replace BK164 := bkb_ BK164 hb; clear hb hbox hg; have hnb77 := NB165_164.out; have hnc77 := NB164_165.out; have hcz78 := blk_cell BK165.out; have hfz78 := blk_frozen BK165.out) | ((with_reducible refine gate_callee (f := 15) rfl ?_); refine goesC_ (some 27) Try.func15 #[.string a0, .int .i64 a1] ?_; (with_reducible refine (spec_ReadShort.calls k a0 a1 t166 t167 false _ A3.out).mono ?_); rintro e w79 ⟨rfl, hb⟩; refine ⟨_, rfl, ?_⟩; replace BK164 := Aside0.mk (blk_below (g := gb164) (o := .cells #[.int .i64 0, .int .i64 0, .int .i64 0, .int .i64 0, .int .i64 0, .int .i64 0, .int .i64 0, .int .i64 0, .int .i64 0, .int .i64 0, .int .i64 0, .int .i64 0, .int .i64 0, .slice none 0 0] 36 (0, 0)) (bk_ BK164) hb); replace BK165 := Aside0.mk (blk_below (g := gb165) (o := .cells #[.int .i64 0, .int .i64 0, .int .i64 0, .int .i64 0, .int .i64 0, .int .i64 0, .int .i64 0, .int .i64 0, .int .i64 0, .int .i64 0, .int .i64 0, .int .i64 0, .int .i64 0, .slice none 0 0] 36 (0, 0)) (bk_ BK165) hb); replace HB := hbs_ hb; clear hb; have hcz80 := blk_cell BK165.out; have hfz80 := blk_frozen BK165.out; have hcz81 := blk_cell BK164.out; have hfz81 := blk_frozen BK164.out))
  refine bodyPost_ret (results_ct rfl _ _ gb164 36 #[.int .i64 0, .int .i64 0, .int .i64 0, .int .i64 0, .int .i64 0, .int .i64 0, .int .i64 0, .int .i64 0, .int .i64 0, .int .i64 0, .int .i64 0, .int .i64 0, .int .i64 0, .slice none 0 0] (0, 0) _ rfl (bk_ BK164) Try.underlying36 rfl (by kernel_rfl)) rfl ?_
  exact ⟨_, eq_, by first | exact Kd.R_nil _ _ _ _ _ | exact Kd.N_nil _ _ _ _ _ | exact Kd.V_nil _ _ _ _ _ | exact Kd.Q_nil _ _ _ _ _ | exact Kd.S_nil _ _ _ _ _, bl_⟩
mutual
def spec_StepText.j0 : Nat → ByteArray → Bool → Int → Int → Int → Int → Int → Int → Int → Int → Int → Int → Int → Int → Int → List Int → Option (ByteArray × Bool)
 | 0, _, _, _, _, _, _, _, _, _, _, _, _, _, _, _, _ => none
 | k + 1, x4, x33, x198000, x198001, x198002, x198003, x198004, x198005, x198006, x198007, x198008, x198009, x198010, x198011, x198012, x198013 => if x33 = true then (some ((⟨#[]⟩ : ByteArray), false)) else ((spec_l01Var.f k (x4.size : Int)).bind fun t200 => (if t200.size + x4.size ≤ 9223372036854775807 then ((spec_l01Var.f k x198012).bind fun t201 => (if (t200 ++ x4).size + t201.size ≤ 9223372036854775807 then ((spec_l01Var.f k (x198013.length : Int)).bind fun t202 => (if ((t200 ++ x4) ++ t201).size + t202.size ≤ 9223372036854775807 then (spec_StepText.l0 k (((t200 ++ x4) ++ t201) ++ t202) 0 x198000 x198001 x198002 x198003 x198004 x198005 x198006 x198007 x198008 x198009 x198010 x198011 x198012 x198013) else (none))) else (none))) else (none)))
def spec_StepText.l0 : Nat → ByteArray → Int → Int → Int → Int → Int → Int → Int → Int → Int → Int → Int → Int → Int → Int → List Int → Option (ByteArray × Bool)
 | 0, _, _, _, _, _, _, _, _, _, _, _, _, _, _, _, _ => none
 | k + 1, x5, x6, x198000, x198001, x198002, x198003, x198004, x198005, x198006, x198007, x198008, x198009, x198010, x198011, x198012, x198013 => if x6 < (x198013.length : Int) then (if 0 ≤ x6 then ((spec_l01In.f (rd x198013 x6) 0 199).bind fun t204 => (if t204 = true then ((spec_l01Var.f k (rd x198013 x6)).bind fun t206 => (if x5.size + t206.size ≤ 9223372036854775807 then (spec_StepText.l0 k (x5 ++ t206) (wrap64 (x6 + 1)) x198000 x198001 x198002 x198003 x198004 x198005 x198006 x198007 x198008 x198009 x198010 x198011 x198012 x198013) else (none))) else (some ((⟨#[]⟩ : ByteArray), false)))) else (none)) else (some (x5, true))
end
def spec_StepText.f (k : Nat) (a0_0 : Int) (a0_1 : Int) (a0_2 : Int) (a0_3 : Int) (a0_4 : Int) (a0_5 : Int) (a0_6 : Int) (a0_7 : Int) (a0_8 : Int) (a0_9 : Int) (a0_10 : Int) (a0_11 : Int) (a0_12 : Int) (l0_13 : List Int) : Option (ByteArray × Bool) := (spec_CredText.f k a0_0 a0_1 a0_2 a0_3 a0_4 a0_5 a0_6 a0_7 a0_8 a0_9).bind fun t198 => (if t198.toList = ([] : List UInt8) then (spec_StepText.j0 k t198 true a0_0 a0_1 a0_2 a0_3 a0_4 a0_5 a0_6 a0_7 a0_8 a0_9 a0_10 a0_11 a0_12 l0_13) else (if (!(a0_10 == a0_1) || (!(a0_11 == a0_2))) = true then (spec_StepText.j0 k t198 true a0_0 a0_1 a0_2 a0_3 a0_4 a0_5 a0_6 a0_7 a0_8 a0_9 a0_10 a0_11 a0_12 l0_13) else ((spec_l01In.f a0_12 0 5).bind fun t199 => (if t199 = true then (spec_StepText.j0 k t198 (decide ((l0_13.length : Int) > 2)) a0_0 a0_1 a0_2 a0_3 a0_4 a0_5 a0_6 a0_7 a0_8 a0_9 a0_10 a0_11 a0_12 l0_13) else (spec_StepText.j0 k t198 true a0_0 a0_1 a0_2 a0_3 a0_4 a0_5 a0_6 a0_7 a0_8 a0_9 a0_10 a0_11 a0_12 l0_13)))))
def spec_StepText.T4 : Bool × List (List Nat × List Nat) := (true, [([], []), ([0], [0]), ([1], [1]), ([], []), ([2, 3], [2, 3]), ([], []), ([5], [5]), ([6], [6]), ([7, 2], [7]), ([4, 8], [4, 8]), ([], []), ([10], [10]), ([11], [11]), ([12, 8], [12]), ([9, 13], [9, 13]), ([14, 13, 0, 1, 2, 3, 4, 5, 6, 7, 8, 9, 10, 11, 12, 13, 14], [14])])
def spec_StepText.B4 : List Nat := [0, 1, 3, 0, 15, 0, 32, 96, 231, 511, 0, 1024, 3072, 7655, 16383, 32767]
theorem spec_StepText.tab4 : rtab .any (opsOf Try.f18 4) = spec_StepText.T4 := by kernel_rfl
theorem spec_StepText.bits4 : waitsOk spec_StepText.T4.2 spec_StepText.B4 = true := by kernel_rfl
set_option maxHeartbeats 8000000 in
set_option maxRecDepth 100000 in
theorem spec_StepText.calls (k : Nat) (a0_0 : Int) (a0_1 : Int) (a0_2 : Int) (a0_3 : Int) (a0_4 : Int) (a0_5 : Int) (a0_6 : Int) (a0_7 : Int) (a0_8 : Int) (a0_9 : Int) (a0_10 : Int) (a0_11 : Int) (a0_12 : Int) (A0_13 : Option Addr) (c0_13 : Nat) (l0_13 : List Int) (r1 : ByteArray) (r2 : Bool) (w : World) (hr0_13 : Kd.C (Kd.int .i64) w A0_13 l0_13.length l0_13) (hc0_13 : l0_13.length ≤ c0_13) (h : spec_StepText.f k a0_0 a0_1 a0_2 a0_3 a0_4 a0_5 a0_6 a0_7 a0_8 a0_9 a0_10 a0_11 a0_12 l0_13 = some (r1, r2)) :
  Calls Try.prog 18 #[.agg #[.int .i64 a0_0, .int .i64 a0_1, .int .i64 a0_2, .int .i64 a0_3, .int .i64 a0_4, .int .i64 a0_5, .int .i64 a0_6, .int .i64 a0_7, .int .i64 a0_8, .int .i64 a0_9, .int .i64 a0_10, .int .i64 a0_11, .int .i64 a0_12, .slice A0_13 l0_13.length c0_13]] w fun e w' => e = .returned (.tuple #[.string r1, .bool r2]) ∧ Below w.heap.size w w' := by
 have hu36 := Try.underlying36
 have hu31 := Try.underlying31
 have hu29 := Try.underlying29
 have HR0_13 := Aside0.mk hr0_13
 have HC0_13 := Aside0.mk hc0_13
 clear hr0_13 hc0_13
 have HB := Aside0.mk (Below.refl w.heap.size w)
 have H : ((spec_CredText.f k a0_0 a0_1 a0_2 a0_3 a0_4 a0_5 a0_6 a0_7 a0_8 a0_9).bind fun t198 => (if t198.toList = ([] : List UInt8) then (spec_StepText.j0 k t198 true a0_0 a0_1 a0_2 a0_3 a0_4 a0_5 a0_6 a0_7 a0_8 a0_9 a0_10 a0_11 a0_12 l0_13) else (if (!(a0_10 == a0_1) || (!(a0_11 == a0_2))) = true then (spec_StepText.j0 k t198 true a0_0 a0_1 a0_2 a0_3 a0_4 a0_5 a0_6 a0_7 a0_8 a0_9 a0_10 a0_11 a0_12 l0_13) else ((spec_l01In.f a0_12 0 5).bind fun t199 => (if t199 = true then (spec_StepText.j0 k t198 (decide ((l0_13.length : Int) > 2)) a0_0 a0_1 a0_2 a0_3 a0_4 a0_5 a0_6 a0_7 a0_8 a0_9 a0_10 a0_11 a0_12 l0_13) else (spec_StepText.j0 k t198 true a0_0 a0_1 a0_2 a0_3 a0_4 a0_5 a0_6 a0_7 a0_8 a0_9 a0_10 a0_11 a0_12 l0_13)))))) = some (r1, r2) := h
 clear h
 obtain ⟨t198, A2, H⟩ := bindE_ H
 have HC3 := Aside0.mk H
 clear H
 go_enter Try.func18, Try.ntmps18
 go_upto_region 2 with (first | ((with_reducible refine gate_dst (N := 1) rfl ?_); (try (refine gate_guard (by rfl) ?_; dsimp only)); refine box_event ?hg (N := 1) ?hd (cs := #[.int .i64 a0_0, .int .i64 a0_1, .int .i64 a0_2, .int .i64 a0_3, .int .i64 a0_4, .int .i64 a0_5, .int .i64 a0_6, .int .i64 a0_7, .int .i64 a0_8, .int .i64 a0_9, .int .i64 a0_10, .int .i64 a0_11, .int .i64 a0_12, .slice A0_13 l0_13.length c0_13]) (t := 36) ?hr ?_; (case hd => rfl); (case hg => rfl); (case hr => first | (go_simp; done) | (go_simp; rfl)); intro gb197 hg w4 hbox hb; have BK197 := Aside0.mk (hbox); have GW197 := gs_ hg; have GE197 := gs_ hg; replace HB := hbs_ hb; clear hb hbox hg; have hcz5 := blk_cell BK197.out; have hfz5 := blk_frozen BK197.out) | ((with_reducible refine gate_callee (f := 27) rfl ?_); refine goesC_ (some 9) Try.func27 #[.agg #[.int .i64 a0_0, .int .i64 a0_1, .int .i64 a0_2, .int .i64 a0_3, .int .i64 a0_4, .int .i64 a0_5, .int .i64 a0_6, .int .i64 a0_7, .int .i64 a0_8, .int .i64 a0_9]] ?_; (with_reducible refine (spec_CredText.calls k a0_0 a0_1 a0_2 a0_3 a0_4 a0_5 a0_6 a0_7 a0_8 a0_9 t198 _ A2.out).mono ?_); rintro e w6 ⟨rfl, hb⟩; refine ⟨_, rfl, ?_⟩; replace BK197 := bkb_ BK197 hb; replace HB := hbs_ hb; clear hb))
 (try simp only [Act.put, List.setIfInBounds_toArray, List.set_cons_zero, List.set_cons_succ])
 go_cut [33] (fun v33 wc => ∃ (kq : Nat) (x33_2 : Bool), v33 = .bool x33_2 ∧ Aside0 (spec_StepText.j0 kq t198 x33_2 a0_0 a0_1 a0_2 a0_3 a0_4 a0_5 a0_6 a0_7 a0_8 a0_9 a0_10 a0_11 a0_12 l0_13 = some (r1, r2)) ∧ Aside0 (kq ≤ k) ∧ Aside0 (wc.heap[gb197]? = some (.cells #[.int .i64 a0_0, .int .i64 a0_1, .int .i64 a0_2, .int .i64 a0_3, .int .i64 a0_4, .int .i64 a0_5, .int .i64 a0_6, .int .i64 a0_7, .int .i64 a0_8, .int .i64 a0_9, .int .i64 a0_10, .int .i64 a0_11, .int .i64 a0_12, (.slice A0_13 l0_13.length c0_13)] 36 (0, 0))) ∧ Aside0 (Below w.heap.size w wc))
 case first =>
  have H := HC3.out
  clear HC3
  by_cases c7 : t198.toList = ([] : List UInt8)
  ·rw [if_pos c7] at H
   have c7b0 : (t198.toList == ([] : List UInt8)) = true := beq_iff_eq.mpr c7
   have c7b1 : (t198.toList != ([] : List UInt8)) = false := bne_eq_false_iff_eq.mpr c7
   clear c7
   (first | rw [c7b0] | (simp only [i64_w, i32_w]; rw [c7b0]) | skip)
   have H' := Aside0.mk H
   clear H
   go_wp2
   go_meet
   case rel => exact ⟨_, (true), (by first | rfl | (simp; done) | (simp [*]; done)), H', ⟨by first | omega | exact Nat.le_refl _⟩, ⟨bk_ BK197⟩, ⟨bl_⟩⟩
  ·rw [if_neg c7] at H
   have c7b0 : (t198.toList == ([] : List UInt8)) = false := beq_eq_false_iff_ne.mpr c7
   have c7b1 : (t198.toList != ([] : List UInt8)) = true := bne_iff_ne.mpr c7
   (first | rw [c7b0] | (simp only [i64_w, i32_w]; rw [c7b0]) | skip)
   by_cases c8 : (!(a0_10 == a0_1) || (!(a0_11 == a0_2))) = true
   ·rw [if_pos c8] at H
    have c8b0 : (!(a0_10 == a0_1) || (!(a0_11 == a0_2))) = true := c8
    clear c8
    have H' := Aside0.mk H
    clear H
    have hcz9 := blk_cell BK197.out
    have hfz9 := blk_frozen BK197.out
    go_wp2
    go_meet
    case rel => exact ⟨_, (true), (by first | rfl | (simp; done) | (simp [*]; done)), H', ⟨by first | omega | exact Nat.le_refl _⟩, ⟨bk_ BK197⟩, ⟨bl_⟩⟩
   ·rw [if_neg c8] at H
    have c8b0 : (!(a0_10 == a0_1) || (!(a0_11 == a0_2))) = false := by simpa using c8
    clear c8
    obtain ⟨t199, A10, H⟩ := bindE_ H
    by_cases c11 : t199 = true
    ·subst c11
     replace H := ite_t_ H
     have H' := Aside0.mk H
     clear H
     have hcz12 := blk_cell BK197.out
     have hfz12 := blk_frozen BK197.out
     go_wp2_with (first | (go_at_call 28; (with_reducible refine (spec_l01In.calls a0_12 0 5 true _ A10.out).mono ?_); rintro e w' ⟨rfl, ⟨nd, rfl⟩⟩))
     go_meet
     case rel => exact ⟨_, (decide ((l0_13.length : Int) > 2)), (by first | rfl | (simp; done) | (simp [*]; done)), H', ⟨by first | omega | exact Nat.le_refl _⟩, ⟨bk_ BK197⟩, ⟨bl_⟩⟩
    ·replace c11 := Bool.eq_false_iff.mpr c11
     subst c11
     replace H := ite_f_ H
     have H' := Aside0.mk H
     clear H
     have hcz13 := blk_cell BK197.out
     have hfz13 := blk_frozen BK197.out
     go_wp2_with (first | (go_at_call 28; (with_reducible refine (spec_l01In.calls a0_12 0 5 false _ A10.out).mono ?_); rintro e w' ⟨rfl, ⟨nd, rfl⟩⟩))
     go_meet
     case rel => exact ⟨_, (true), (by first | rfl | (simp; done) | (simp [*]; done)), H', ⟨by first | omega | exact Nat.le_refl _⟩, ⟨bk_ BK197⟩, ⟨bl_⟩⟩
 case rest =>
  clear HC3
  try clear c1
  try clear c2
  try clear p2
  try clear c7
  try clear c7b0
  try clear c7b1
  try clear c8
  try clear c8b0
  try clear c11
  try clear hcz12
  try clear hcz13
  try clear hcz5
  try clear hcz9
  try clear hfz12
  try clear hfz13
  try clear hfz5
  try clear hfz9
  obtain ⟨kq, x33_2, rfl, HA, HJ2, BK197, HB⟩ := hcut
  cases kq with
  | zero => exact absurd HA.out (by simp [spec_StepText.j0])
  | succ kj2 =>
   have H := HA.out
   clear HA
   simp only [spec_StepText.j0] at H
   by_cases c14 : x33_2 = true
   ·subst c14
    replace H := ite_t_ H
    simp only [Option.some.injEq, Prod.mk.injEq] at H
    obtain ⟨rfl, rfl⟩ := H
    go_wp2
    go_ret2
    exact ⟨eq_, bl_⟩
   ·replace c14 := Bool.eq_false_iff.mpr c14
    subst c14
    replace H := ite_f_ H
    obtain ⟨t200, A15, H⟩ := bindE_ H
    by_cases c16 : t200.size + t198.size ≤ 9223372036854775807
    ·rw [if_pos c16] at H
     have c16b0 := eq_true c16
     have c16b1 : decide (t200.size + t198.size ≤ 9223372036854775807) = true := decide_eq_true c16
     try have c16b2 : (9223372036854775807 < t200.size + t198.size) = False := eq_false (Nat.not_lt.2 c16)
     obtain ⟨t201, A17, H⟩ := bindE_ H
     by_cases c18 : (t200 ++ t198).size + t201.size ≤ 9223372036854775807
     ·rw [if_pos c18] at H
      have c18b0 := eq_true c18
      have c18b1 : decide ((t200 ++ t198).size + t201.size ≤ 9223372036854775807) = true := decide_eq_true c18
      try have c18b2 : (9223372036854775807 < (t200 ++ t198).size + t201.size) = False := eq_false (Nat.not_lt.2 c18)
      (try (have c18b3 := c18b2; simp only [ByteArray.size_append] at c18b3)); (try (have c18b4 := c18b0; simp only [ByteArray.size_append] at c18b4))
      obtain ⟨t202, A19, H⟩ := bindE_ H
      by_cases c20 : ((t200 ++ t198) ++ t201).size + t202.size ≤ 9223372036854775807
      ·rw [if_pos c20] at H
       have c20b0 := eq_true c20
       have c20b1 : decide (((t200 ++ t198) ++ t201).size + t202.size ≤ 9223372036854775807) = true := decide_eq_true c20
       try have c20b2 : (9223372036854775807 < ((t200 ++ t198) ++ t201).size + t202.size) = False := eq_false (Nat.not_lt.2 c20)
       (try (have c20b3 := c20b2; simp only [ByteArray.size_append] at c20b3)); (try (have c20b4 := c20b0; simp only [ByteArray.size_append] at c20b4))
       have H' := Aside0.mk H
       clear H
       try go_wp2
       replace BK197 := Aside0.mk (blk_drew BK197.out)
       replace HB := Aside0.mk (below_drew1 HB.out)
       refine start_ (n := 16) (S := fun w' => w'.cell? ⟨gb197, 0, none⟩ = some (.int .i64 a0_0) ∧ w'.cell? ⟨gb197, 1, none⟩ = some (.int .i64 a0_1) ∧ w'.cell? ⟨gb197, 2, none⟩ = some (.int .i64 a0_2) ∧ w'.cell? ⟨gb197, 3, none⟩ = some (.int .i64 a0_3) ∧ w'.cell? ⟨gb197, 4, none⟩ = some (.int .i64 a0_4) ∧ w'.cell? ⟨gb197, 5, none⟩ = some (.int .i64 a0_5) ∧ w'.cell? ⟨gb197, 6, none⟩ = some (.int .i64 a0_6) ∧ w'.cell? ⟨gb197, 7, none⟩ = some (.int .i64 a0_7) ∧ w'.cell? ⟨gb197, 8, none⟩ = some (.int .i64 a0_8) ∧ w'.cell? ⟨gb197, 9, none⟩ = some (.int .i64 a0_9) ∧ w'.cell? ⟨gb197, 10, none⟩ = some (.int .i64 a0_10) ∧ w'.cell? ⟨gb197, 11, none⟩ = some (.int .i64 a0_11) ∧ w'.cell? ⟨gb197, 12, none⟩ = some (.int .i64 a0_12) ∧ w'.cell? ⟨gb197, 13, none⟩ = some (.slice A0_13 l0_13.length c0_13)) (ds := []) #[false, false, false, false, false, false, false, false, false, false, false, false, false, false, false, false] (by kernel_rfl) rfl rfl ⟨(blk_cell BK197.out 0).trans rfl, (blk_cell BK197.out 1).trans rfl, (blk_cell BK197.out 2).trans rfl, (blk_cell BK197.out 3).trans rfl, (blk_cell BK197.out 4).trans rfl, (blk_cell BK197.out 5).trans rfl, (blk_cell BK197.out 6).trans rfl, (blk_cell BK197.out 7).trans rfl, (blk_cell BK197.out 8).trans rfl, (blk_cell BK197.out 9).trans rfl, (blk_cell BK197.out 10).trans rfl, (blk_cell BK197.out 11).trans rfl, (blk_cell BK197.out 12).trans rfl, (blk_cell BK197.out 13).trans rfl⟩ (fun hHeld => ?_); refine with_tabW spec_StepText.tab4 spec_StepText.bits4 (fun HT_ HW_ => ?_)
       generalize wc.drew = w21 at BK197 HB hHeld ⊢
       refine pureZ_ (i := 0) (some 34) #[true, false, false, false, false, false, false, false, false, false, false, false, false, false, false, false] (any_of HT_.out (by kernel_rfl)) ?_
       refine pureZ_ (i := 1) (some 35) #[true, true, false, false, false, false, false, false, false, false, false, false, false, false, false, false] (any_of HT_.out (by kernel_rfl)) ?_
       refine pureZ_ (i := 3) (some 37) #[true, true, false, true, false, false, false, false, false, false, false, false, false, false, false, false] (any_of HT_.out (by kernel_rfl)) ?_
       refine pureZ_ (i := 5) (some 39) #[true, true, false, true, false, true, false, false, false, false, false, false, false, false, false, false] (any_of HT_.out (by kernel_rfl)) ?_
       refine pureZ_ (i := 6) (some 40) #[true, true, false, true, false, true, true, false, false, false, false, false, false, false, false, false] (any_of HT_.out (by kernel_rfl)) ?_
       refine pureZ_ (i := 10) (some 44) #[true, true, false, true, false, true, true, false, false, false, true, false, false, false, false, false] (any_of HT_.out (by kernel_rfl)) ?_
       refine takeZ_ (i := 7) (some 41) #[true, true, false, true, false, true, true, true, false, false, true, false, false, false, false, false] (take_ofW HT_.out HW_.out (by kernel_rfl)) hHeld ?_
       refine takeZ_ (i := 11) (some 45) #[true, true, false, true, false, true, true, true, false, false, true, true, false, false, false, false] (take_ofW HT_.out HW_.out (by kernel_rfl)) hHeld ?_
       refine pureZ_ (i := 12) (some 46) #[true, true, false, true, false, true, true, true, false, false, true, true, true, false, false, false] (any_of HT_.out (by kernel_rfl)) ?_
       refine one_ (i := 2) (N := some 36) #[true, true, true, true, false, true, true, true, false, false, true, true, true, false, false, false] rfl rfl (one_of HT_.out (by kernel_rfl)) (by decide) (fun K hK => ?_)
       refine goes_ Try.func29 (by kernel_rfl) rfl #[.int .i64 (t198.size : Int)] (by rfl) rfl rfl (by (try simp only [List.map_toArray, List.map_cons, List.map_nil]); first | done | rfl | (simp only [List.length_drop, List.length_take]; rfl)) ?_
       with_reducible refine (spec_l01Var.calls kj2 (t198.size : Int) t200 _ A15.out).mono ?_
       rintro e w22 ⟨rfl, hb⟩
       refine ⟨_, rfl, ?_⟩
       replace BK197 := bkb_ BK197 hb
       replace HB := hbs_ hb
       (try clear hb)
       (try clear hb2)
       (try clear hk)
       (try clear hi)
       refine hK.out _ _ ⟨(blk_cell BK197.out 0).trans rfl, (blk_cell BK197.out 1).trans rfl, (blk_cell BK197.out 2).trans rfl, (blk_cell BK197.out 3).trans rfl, (blk_cell BK197.out 4).trans rfl, (blk_cell BK197.out 5).trans rfl, (blk_cell BK197.out 6).trans rfl, (blk_cell BK197.out 7).trans rfl, (blk_cell BK197.out 8).trans rfl, (blk_cell BK197.out 9).trans rfl, (blk_cell BK197.out 10).trans rfl, (blk_cell BK197.out 11).trans rfl, (blk_cell BK197.out 12).trans rfl, (blk_cell BK197.out 13).trans rfl⟩ (fun hHeld => ?_)
       clear hK K
       refine norm_ (a' := ?_) ?_ ?_
       rotate_left
       ·show Act.put _ (some 36) _ = _
        simp only [Act.put, List.setIfInBounds_toArray, List.set_cons_zero, List.set_cons_succ, i64_w, i32_w]
        rfl
       refine pureZ_ (i := 4) (some 38) #[true, true, true, true, true, true, true, true, false, false, true, true, true, false, false, false] (any_of HT_.out (by kernel_rfl)) ?_
       refine one_ (i := 8) (N := some 42) #[true, true, true, true, true, true, true, true, true, false, true, true, true, false, false, false] rfl rfl (one_of HT_.out (by kernel_rfl)) (by decide) (fun K hK => ?_)
       refine goes_ Try.func29 (by kernel_rfl) rfl #[.int .i64 a0_12] (by rfl) rfl rfl (by (try simp only [List.map_toArray, List.map_cons, List.map_nil]); first | done | rfl | (simp only [List.length_drop, List.length_take]; rfl)) ?_
       with_reducible refine (spec_l01Var.calls kj2 a0_12 t201 _ A17.out).mono ?_
       rintro e w23 ⟨rfl, hb⟩
       refine ⟨_, rfl, ?_⟩
       replace BK197 := bkb_ BK197 hb
       replace HB := hbs_ hb
       (try clear hb)
       (try clear hb2)
       (try clear hk)
       (try clear hi)
       refine hK.out _ _ ⟨(blk_cell BK197.out 0).trans rfl, (blk_cell BK197.out 1).trans rfl, (blk_cell BK197.out 2).trans rfl, (blk_cell BK197.out 3).trans rfl, (blk_cell BK197.out 4).trans rfl, (blk_cell BK197.out 5).trans rfl, (blk_cell BK197.out 6).trans rfl, (blk_cell BK197.out 7).trans rfl, (blk_cell BK197.out 8).trans rfl, (blk_cell BK197.out 9).trans rfl, (blk_cell BK197.out 10).trans rfl, (blk_cell BK197.out 11).trans rfl, (blk_cell BK197.out 12).trans rfl, (blk_cell BK197.out 13).trans rfl⟩ (fun hHeld => ?_)
       clear hK K
       refine norm_ (a' := ?_) ?_ ?_
       rotate_left
       ·show Act.put _ (some 42) _ = _
        simp only [Act.put, List.setIfInBounds_toArray, List.set_cons_zero, List.set_cons_succ, i64_w, i32_w]
        rfl
       refine pureZ_ (i := 9) (some 43) #[true, true, true, true, true, true, true, true, true, true, true, true, true, false, false, false] (any_of HT_.out (by kernel_rfl)) ?_
       refine one_ (i := 13) (N := some 47) #[true, true, true, true, true, true, true, true, true, true, true, true, true, true, false, false] rfl rfl (one_of HT_.out (by kernel_rfl)) (by decide) (fun K hK => ?_)
       refine goes_ Try.func29 (by kernel_rfl) rfl #[.int .i64 (l0_13.length : Int)] (by rfl) rfl rfl (by (try simp only [List.map_toArray, List.map_cons, List.map_nil]); first | done | rfl | (simp only [List.length_drop, List.length_take]; rfl)) ?_
       with_reducible refine (spec_l01Var.calls kj2 (l0_13.length : Int) t202 _ A19.out).mono ?_
       rintro e w24 ⟨rfl, hb⟩
       refine ⟨_, rfl, ?_⟩
       replace BK197 := bkb_ BK197 hb
       replace HB := hbs_ hb
       (try clear hb)
       (try clear hb2)
       (try clear hk)
       (try clear hi)
       refine hK.out _ _ ⟨(blk_cell BK197.out 0).trans rfl, (blk_cell BK197.out 1).trans rfl, (blk_cell BK197.out 2).trans rfl, (blk_cell BK197.out 3).trans rfl, (blk_cell BK197.out 4).trans rfl, (blk_cell BK197.out 5).trans rfl, (blk_cell BK197.out 6).trans rfl, (blk_cell BK197.out 7).trans rfl, (blk_cell BK197.out 8).trans rfl, (blk_cell BK197.out 9).trans rfl, (blk_cell BK197.out 10).trans rfl, (blk_cell BK197.out 11).trans rfl, (blk_cell BK197.out 12).trans rfl, (blk_cell BK197.out 13).trans rfl⟩ (fun hHeld => ?_)
       clear hK K
       refine norm_ (a' := ?_) ?_ ?_
       rotate_left
       ·show Act.put _ (some 47) _ = _
        simp only [Act.put, List.setIfInBounds_toArray, List.set_cons_zero, List.set_cons_succ, i64_w, i32_w]
        rfl
       refine pureZ_ (i := 14) (some 48) #[true, true, true, true, true, true, true, true, true, true, true, true, true, true, true, false] (any_of HT_.out (by kernel_rfl)) ?_
       refine pureZ_ (i := 15) (some 5) #[true, true, true, true, true, true, true, true, true, true, true, true, true, true, true, true] (any_of HT_.out (by kernel_rfl)) ?_
       refine done_ (done_of HT_.out (by kernel_rfl)) ?_
       try go_wp2
       go_loopg [5, 6] kj2 (fun kq v5 v6 w' => ∃ (x5_2 : ByteArray) (x6_2 : Int), v5 = .string x5_2 ∧ v6 = .int .i64 x6_2 ∧ Aside0 (spec_StepText.l0 kq x5_2 x6_2 a0_0 a0_1 a0_2 a0_3 a0_4 a0_5 a0_6 a0_7 a0_8 a0_9 a0_10 a0_11 a0_12 l0_13 = some (r1, r2)) ∧ Aside0 (kq ≤ kj2) ∧ Aside0 (w'.heap[gb197]? = some (.cells #[.int .i64 a0_0, .int .i64 a0_1, .int .i64 a0_2, .int .i64 a0_3, .int .i64 a0_4, .int .i64 a0_5, .int .i64 a0_6, .int .i64 a0_7, .int .i64 a0_8, .int .i64 a0_9, .int .i64 a0_10, .int .i64 a0_11, .int .i64 a0_12, (.slice A0_13 l0_13.length c0_13)] 36 (0, 0))) ∧ Aside0 (Below w.heap.size w w'))
       case atStart => exact ⟨(((t200 ++ t198) ++ t201) ++ t202), (0), (by first | rfl | (simp; done) | (simp [*]; done)), (by first | rfl | (simp; done) | (simp [*]; done)), H', ⟨Nat.le_refl _⟩, ⟨bk_ BK197⟩, ⟨bl_⟩⟩
       case round =>
        clear H'
        try clear c1
        try clear c2
        try clear p2
        try clear c7
        try clear c7b0
        try clear c7b1
        try clear c8
        try clear c8b0
        try clear c11
        try clear c14
        try clear c16
        try clear c16b0
        try clear c16b1
        try clear c16b2
        try clear c18
        try clear c18b0
        try clear c18b1
        try clear c18b2
        try clear c20
        try clear c20b0
        try clear c20b1
        try clear c20b2
        try clear hcz12
        try clear hcz13
        try clear hcz5
        try clear hcz9
        try clear hfz12
        try clear hfz13
        try clear hfz5
        try clear hfz9
        try clear p2
        obtain ⟨x5_2, x6_2, rfl, rfl, HA, HK2, BK197, HB⟩ := hrel
        cases gk with
        | zero => exact absurd HA.out (by simp [spec_StepText.l0])
        | succ k2 =>
         have H := HA.out
         clear HA
         simp only [spec_StepText.l0] at H
         by_cases c25 : x6_2 < (l0_13.length : Int)
         ·rw [if_pos c25] at H
          have c25b0 : decide (x6_2 < (l0_13.length : Int)) = true := decide_eq_true c25
          clear c25
          by_cases c26 : 0 ≤ x6_2
          ·rw [if_pos c26] at H
           have c26b0 : decide (0 ≤ x6_2) = true := decide_eq_true c26
           clear c26
           obtain ⟨t204, A27, H⟩ := bindE_ H
           have HC28 := Aside0.mk H
           clear H
           have hcz29 := blk_cell BK197.out
           have hfz29 := blk_frozen BK197.out
           have p203 : 0 ≤ (x6_2 : Int) := of_decide_eq_true (by first | (with_reducible assumption) | assumption)
           have q203 : x6_2 < (l0_13.length : Int) := of_decide_eq_true (by first | (with_reducible assumption) | assumption)
           obtain ⟨ad203, e203, hx203_0⟩ := Kd.at_int (Kd.C_below HR0_13.out HB.out) x6_2 p203 q203
           cases e203
           replace p203 := eq_true p203
           replace q203 := eq_true q203
           go_upto_if 62 with (first | ((with_reducible refine gate_callee (f := 28) rfl ?_); refine goesC_ (some 61) Try.func28 #[.int .i64 (rd l0_13 x6_2), .int .i64 0, .int .i64 199] ?_; (with_reducible refine (spec_l01In.calls (rd l0_13 x6_2) 0 199 t204 _ A27.out).mono ?_); rintro e w' ⟨rfl, ⟨nd, rfl⟩⟩; refine ⟨_, rfl, ?_⟩))
           (try simp only [Act.put, List.setIfInBounds_toArray, List.set_cons_zero, List.set_cons_succ])
           have H := HC28.out
           clear HC28
           by_cases c30 : t204 = true
           ·subst c30
            replace H := ite_t_ H
            obtain ⟨t206, A31, H⟩ := bindE_ H
            by_cases c32 : x5_2.size + t206.size ≤ 9223372036854775807
            ·rw [if_pos c32] at H
             have c32b0 := eq_true c32
             have c32b1 : decide (x5_2.size + t206.size ≤ 9223372036854775807) = true := decide_eq_true c32
             try have c32b2 : (9223372036854775807 < x5_2.size + t206.size) = False := eq_false (Nat.not_lt.2 c32)
             have H' := Aside0.mk H
             clear H
             have hcz33 := blk_cell BK197.out
             have hfz33 := blk_frozen BK197.out
             have p205 : 0 ≤ (x6_2 : Int) := of_decide_eq_true (by first | (with_reducible assumption) | assumption)
             have q205 : x6_2 < (l0_13.length : Int) := of_decide_eq_true (by first | (with_reducible assumption) | assumption)
             obtain ⟨ad205, e205, hx205_0⟩ := Kd.at_int HR0_13.out x6_2 p205 q205
             obtain rfl : ad203 = ad205 := (by injection e205)
             replace hx205_0 := cb_ HB hx205_0
             replace p205 := eq_true p205
             replace q205 := eq_true q205
             go_wp2_with (first | ((with_reducible refine gate_callee (f := 29) rfl ?_); refine goesC_ (some 69) Try.func29 #[.int .i64 (rd l0_13 x6_2)] ?_; (with_reducible refine (spec_l01Var.calls k2 (rd l0_13 x6_2) t206 _ A31.out).mono ?_); rintro e w34 ⟨rfl, hb⟩; refine ⟨_, rfl, ?_⟩; replace BK197 := bkb_ BK197 hb; replace HB := hbs_ hb; clear hb))
             go_roundg k2
             case measure => have := HJ2.out; have := HK2.out; omega
             case rel => exact ⟨(x5_2 ++ t206), (wrap64 (x6_2 + 1)), (by first | rfl | (simp; done) | (simp [*]; done)), (by first | rfl | (simp; done) | (simp [*]; done)), H', ⟨by have := HJ2.out; have := HK2.out; omega⟩, ⟨bk_ BK197⟩, ⟨bl_⟩⟩
            ·rw [if_neg c32] at H
             exact absurd H (by simp)
           ·replace c30 := Bool.eq_false_iff.mpr c30
            subst c30
            replace H := ite_f_ H
            simp only [Option.some.injEq, Prod.mk.injEq] at H
            obtain ⟨rfl, rfl⟩ := H
            go_wp2
            go_ret2
            exact ⟨eq_, bl_⟩
          ·rw [if_neg c26] at H
           exact absurd H (by simp)
         ·rw [if_neg c25] at H
          have c25b0 : decide (x6_2 < (l0_13.length : Int)) = false := decide_eq_false c25
          clear c25
          simp only [Option.some.injEq, Prod.mk.injEq] at H
          obtain ⟨rfl, rfl⟩ := H
          have hcz35 := blk_cell BK197.out
          have hfz35 := blk_frozen BK197.out
          go_wp2
          go_ret2
          exact ⟨eq_, bl_⟩
      ·rw [if_neg c20] at H
       exact absurd H (by simp)
     ·rw [if_neg c18] at H
      exact absurd H (by simp)
    ·rw [if_neg c16] at H
     exact absurd H (by simp)
end Go.Proofs.Yteppfdkfikeclaa.PL
