-- Written by the session's own program (gen.py) out of the translation's print. Lean checks it.
import Derived.Test.YtnidibnhojedoaaGFnExactInverseMotionx0
import Derived.Test.YtnidibnhojedoaaGFnExactInverseMotionx1
import Derived.Test.YtnidibnhojedoaaGFnExactInverseMotionx6
import Derived.Test.YtnidibnhojedoaaGFnExactInverseMotionx9
namespace Go.Proofs.Ytnidibnhojedoaa.GFnExactInverseMotion
open Go.RowKit Go.Proofs.YtnidibnhojedoaaW.PrintWords Go.Proofs.YtnidibnhojedoaaW.PrintLast Go.Proofs.YtnidibnhojedoaaW.PrintMore
attribute [local go_sem] max2_int min2_int max_two min_two max_three min_three max_four min_four   -- for this text's walks alone
set_option linter.unusedVariables false
set_option linter.unusedSimpArgs false

/-! ### laws_FnExactInverseMotion: function 7 -/
def laws_FnExactInverseMotion.j0 : Nat → Bool → Int → Int → List Int → Int → Int → List Int → Option (Bool)
  | 0, _, _, _, _, _, _, _ => none
  | k + 1, x41, x293000, x293001, x293002, x314000, x314001, x314002 => if x41 = true then (some false) else ((laws_toTiling.f k x293000 x293001 x293002).bind fun bt323 => ((laws_eqTiling.f k x314000 x314001 x314002 bt323.1 bt323.2.1 bt323.2.2).bind fun t328 => (if t328 = true then (some true) else (some false))))
def laws_FnExactInverseMotion.f (k : Nat) (a0_0 : Int) (a0_1 : Int) (l0_2 : List Int) (a1_0 : Int) (a1_1 : Int) (a1_2 : Int) : Option (Bool) := (laws_szTiling.f a0_0 a0_1 l0_2 1048576).bind fun t294 => (if t294 < 0 then (some true) else ((laws_toTiling.f k a0_0 a0_1 l0_2).bind fun bt295 => ((laws_toMotion.f a1_0 a1_1 a1_2).bind fun bt300 => ((spec_InverseMotion.f k bt295.1 bt295.2.1 bt295.2.2 bt300.1 bt300.2.1 bt300.2.2).bind fun bt303 => ((laws_toTiling.f k a0_0 a0_1 l0_2).bind fun bt308 => ((laws_toMotion.f a1_0 a1_1 a1_2).bind fun bt314 => ((impl_InverseMotion.f k bt308.1 bt308.2.1 bt308.2.2 bt314.1 bt314.2.1 bt314.2.2).bind fun bt317 => ((laws_eqMotion.f bt317.1 bt317.2.1 bt317.2.2.1 bt303.1 bt303.2.1 bt303.2.2.1).bind fun t322 => (if t322 = true then (laws_FnExactInverseMotion.j0 k (bt317.2.2.2 != bt303.2.2.2) a0_0 a0_1 l0_2 bt308.1 bt308.2.1 bt308.2.2) else (laws_FnExactInverseMotion.j0 k true a0_0 a0_1 l0_2 bt308.1 bt308.2.1 bt308.2.2))))))))))
theorem laws_FnExactInverseMotion.mono_l : ∀ k, (∀ y0 y1 y2 y3 y4 y5 y6, LeO (laws_FnExactInverseMotion.j0 k y0 y1 y2 y3 y4 y5 y6) (laws_FnExactInverseMotion.j0 (k + 1) y0 y1 y2 y3 y4 y5 y6))
  | 0 => fun _ _ _ _ _ _ _ r h => by simp [laws_FnExactInverseMotion.j0] at h
  | k + 1 => by
    have ih0 := laws_FnExactInverseMotion.mono_l k
    · intro y0 y1 y2 y3 y4 y5 y6
      unfold laws_FnExactInverseMotion.j0
      repeat' first
      | (with_reducible exact ih0 _ _ _ _ _ _ _)
      | (with_reducible exact impl_InverseMotion.mono _ _ _ _ _ _ _)
      | (with_reducible exact laws_eqTiling.mono _ _ _ _ _ _ _)
      | (with_reducible exact laws_toTiling.mono _ _ _ _)
      | (with_reducible exact spec_InverseMotion.mono _ _ _ _ _ _ _)
      | (with_reducible exact LeO.refl _)
      | (with_reducible exact LeO.none _)
      | (with_reducible refine LeO.ite ?_ ?_)
      | (with_reducible refine LeO.bind ?_ (fun _ => ?_))
      | exact ih0 _ _ _ _ _ _ _
      | exact impl_InverseMotion.mono _ _ _ _ _ _ _
      | exact laws_eqTiling.mono _ _ _ _ _ _ _
      | exact laws_toTiling.mono _ _ _ _
      | exact spec_InverseMotion.mono _ _ _ _ _ _ _
      | exact LeO.none _
      | refine LeO.ite ?_ ?_
      | refine LeO.bind ?_ (fun _ => ?_)
theorem laws_FnExactInverseMotion.mono : ∀ a0 a1 a2 a3 a4 a5 k, LeO (laws_FnExactInverseMotion.f k a0 a1 a2 a3 a4 a5) (laws_FnExactInverseMotion.f (k + 1) a0 a1 a2 a3 a4 a5) := by
  intro a0 a1 a2 a3 a4 a5 k
  have ih0 := laws_FnExactInverseMotion.mono_l k
  unfold laws_FnExactInverseMotion.f
  repeat' first
      | (with_reducible exact ih0 _ _ _ _ _ _ _)
      | (with_reducible exact impl_InverseMotion.mono _ _ _ _ _ _ _)
      | (with_reducible exact laws_eqTiling.mono _ _ _ _ _ _ _)
      | (with_reducible exact laws_toTiling.mono _ _ _ _)
      | (with_reducible exact spec_InverseMotion.mono _ _ _ _ _ _ _)
      | (with_reducible exact LeO.refl _)
      | (with_reducible exact LeO.none _)
      | (with_reducible refine LeO.ite ?_ ?_)
      | (with_reducible refine LeO.bind ?_ (fun _ => ?_))
      | exact ih0 _ _ _ _ _ _ _
      | exact impl_InverseMotion.mono _ _ _ _ _ _ _
      | exact laws_eqTiling.mono _ _ _ _ _ _ _
      | exact laws_toTiling.mono _ _ _ _
      | exact spec_InverseMotion.mono _ _ _ _ _ _ _
      | exact LeO.none _
      | refine LeO.ite ?_ ?_
      | refine LeO.bind ?_ (fun _ => ?_)
def laws_FnExactInverseMotion.T5 : Bool × List (List Nat × List Nat) := (true, [([], []), ([0], [0]), ([], []), ([2, 1], [2]), ([1, 3, 3], [1, 3]), ([4], [4]), ([5], [5]), ([5], [5]), ([], []), ([8, 6, 4, 0, 1, 2, 3, 4, 5, 6, 8], [6, 8]), ([7, 9, 0, 1, 2, 3, 4, 5, 6, 7, 8, 9], [7])])
def laws_FnExactInverseMotion.B5 : List Nat := [0, 1, 0, 7, 15, 31, 63, 63, 0, 383, 1023]
theorem laws_FnExactInverseMotion.tab5 : rtab .any (opsOf Try.f7 5) = laws_FnExactInverseMotion.T5 := by kernel_rfl
theorem laws_FnExactInverseMotion.bits5 : waitsOk laws_FnExactInverseMotion.T5.2 laws_FnExactInverseMotion.B5 = true := by kernel_rfl
def laws_FnExactInverseMotion.T7 : Bool × List (List Nat × List Nat) := (true, [([], []), ([], []), ([1], [1]), ([0, 2, 2], [0, 2]), ([3], [3]), ([4], [4]), ([4], [4]), ([], []), ([7, 5, 3, 0, 1, 2, 3, 4, 5, 7], [5, 7]), ([6, 8, 0, 1, 2, 3, 4, 5, 6, 7, 8], [6])])
def laws_FnExactInverseMotion.B7 : List Nat := [0, 0, 2, 7, 15, 31, 31, 0, 191, 511]
theorem laws_FnExactInverseMotion.tab7 : rtab .any (opsOf Try.f7 7) = laws_FnExactInverseMotion.T7 := by kernel_rfl
theorem laws_FnExactInverseMotion.bits7 : waitsOk laws_FnExactInverseMotion.T7.2 laws_FnExactInverseMotion.B7 = true := by kernel_rfl
open List renaming setIfInBounds_toArray → sA, set_cons_zero → sB, set_cons_succ → sC
open Go.Proofs.YtnidibnhojedoaaW.PrintWords.Aside0 renaming mk → mkA
open Go.Proofs.YtnidibnhojedoaaX (bc_ p0_ p1_ bl_ cb_ bs0_ bs1_ bs2_ bs3_ bs4_ bs5_ bs6_ bs7_ bs8_ bs9_ bs10_ bs11_ bs12_)
abbrev laws_FnExactInverseMotion.d0 : Array Bool := #[false, false, false, false, false, false, false, false, false, false, false]
abbrev laws_FnExactInverseMotion.d1 : Array Bool := #[true, false, false, false, false, false, false, false, false, false, false]
abbrev laws_FnExactInverseMotion.d2 : Array Bool := #[true, false, true, false, false, false, false, false, false, false, false]
abbrev laws_FnExactInverseMotion.d3 : Array Bool := #[true, true, true, true, true, true, true, true, true, false, false]
abbrev laws_FnExactInverseMotion.d4 : Array Bool := #[true, true, true, false, false, false, false, false, false, false, false]
abbrev laws_FnExactInverseMotion.d5 : Array Bool := #[true, false, true, false, false, false, false, false, true, false, false]
abbrev laws_FnExactInverseMotion.d6 : Array Bool := #[true, true, true, true, false, false, false, false, false, false, false]
abbrev laws_FnExactInverseMotion.d7 : Array Bool := #[true, true, true, false, false, false, false, false, true, false, false]
abbrev laws_FnExactInverseMotion.d8 : Array Bool := #[true, true, true, true, true, false, false, false, false, false, false]
abbrev laws_FnExactInverseMotion.d9 : Array Bool := #[true, true, true, true, false, false, false, false, true, false, false]
abbrev laws_FnExactInverseMotion.d10 : Array Bool := #[true, true, true, true, true, true, false, false, false, false, false]
abbrev laws_FnExactInverseMotion.d11 : Array Bool := #[true, true, true, true, true, true, true, false, false, false, false]
abbrev laws_FnExactInverseMotion.d12 : Array Bool := #[true, true, true, true, true, true, true, true, false, false, false]
abbrev laws_FnExactInverseMotion.d13 : Array Bool := #[true, true, true, true, true, false, false, false, true, false, false]
abbrev laws_FnExactInverseMotion.d14 : Array Bool := #[true, true, true, true, true, true, false, false, true, false, false]
abbrev laws_FnExactInverseMotion.d15 : Array Bool := #[true, true, true, true, true, true, true, false, true, false, false]
abbrev laws_FnExactInverseMotion.d16 : Array Bool := #[true, true, true, true, true, true, true, true, true, true, false]
abbrev laws_FnExactInverseMotion.d17 : Array Bool := #[true, true, true, true, true, true, true, true, true, true, true]
abbrev laws_FnExactInverseMotion.d18 : Array Bool := #[false, false, false, false, false, false, false, false, false, false]
abbrev laws_FnExactInverseMotion.d19 : Array Bool := #[true, false, false, false, false, false, false, false, false, false]
abbrev laws_FnExactInverseMotion.d20 : Array Bool := #[true, true, false, false, false, false, false, false, false, false]
abbrev laws_FnExactInverseMotion.d21 : Array Bool := #[true, true, true, true, true, true, true, true, false, false]
abbrev laws_FnExactInverseMotion.d22 : Array Bool := #[true, true, true, false, false, false, false, false, false, false]
abbrev laws_FnExactInverseMotion.d23 : Array Bool := #[true, true, false, false, false, false, false, true, false, false]
abbrev laws_FnExactInverseMotion.d24 : Array Bool := #[true, true, true, true, false, false, false, false, false, false]
abbrev laws_FnExactInverseMotion.d25 : Array Bool := #[true, true, true, false, false, false, false, true, false, false]
abbrev laws_FnExactInverseMotion.d26 : Array Bool := #[true, true, true, true, true, false, false, false, false, false]
abbrev laws_FnExactInverseMotion.d27 : Array Bool := #[true, true, true, true, true, true, false, false, false, false]
abbrev laws_FnExactInverseMotion.d28 : Array Bool := #[true, true, true, true, true, true, true, false, false, false]
abbrev laws_FnExactInverseMotion.d29 : Array Bool := #[true, true, true, true, false, false, false, true, false, false]
abbrev laws_FnExactInverseMotion.d30 : Array Bool := #[true, true, true, true, true, false, false, true, false, false]
abbrev laws_FnExactInverseMotion.d31 : Array Bool := #[true, true, true, true, true, true, false, true, false, false]
abbrev laws_FnExactInverseMotion.d32 : Array Bool := #[true, true, true, true, true, true, true, true, true, false]
abbrev laws_FnExactInverseMotion.d33 : Array Bool := #[true, true, true, true, true, true, true, true, true, true]
set_option maxHeartbeats 8000000 in
set_option maxRecDepth 100000 in
theorem laws_FnExactInverseMotion.calls (k : Nat) (a0_0 : Int) (a0_1 : Int) (A0_2 : Option Addr) (c0_2 : Nat) (l0_2 : List Int) (a1_0 : Int) (a1_1 : Int) (a1_2 : Int) (r : Bool) (w : World) (hr0_2 : Kd.C (Kd.int .i64) w A0_2 l0_2.length l0_2) (hc0_2 : l0_2.length ≤ c0_2) (h : laws_FnExactInverseMotion.f k a0_0 a0_1 l0_2 a1_0 a1_1 a1_2 = some r) :
 Calls Try.prog 7 #[.agg #[.int .i64 a0_0, .int .i64 a0_1, .slice A0_2 l0_2.length c0_2], .agg #[.int .i64 a1_0, .int .i64 a1_1, .int .i64 a1_2]] w fun e w' => e = .returned (.bool r) ∧ Below w.heap.size w w' := by
 have hu24 := Try.underlying24
 have hu26 := Try.underlying26
 have hu31 := Try.underlying31
 have hu29 := Try.underlying29
 have HR0_2 := mkA hr0_2
 have HC0_2 := mkA hc0_2
 clear hr0_2 hc0_2
 have HB := mkA (Below.refl w.heap.size w)
 have H : ((laws_szTiling.f a0_0 a0_1 l0_2 1048576).bind fun t294 => (if t294 < 0 then (some true) else ((laws_toTiling.f k a0_0 a0_1 l0_2).bind fun bt295 => ((laws_toMotion.f a1_0 a1_1 a1_2).bind fun bt300 => ((spec_InverseMotion.f k bt295.1 bt295.2.1 bt295.2.2 bt300.1 bt300.2.1 bt300.2.2).bind fun bt303 => ((laws_toTiling.f k a0_0 a0_1 l0_2).bind fun bt308 => ((laws_toMotion.f a1_0 a1_1 a1_2).bind fun bt314 => ((impl_InverseMotion.f k bt308.1 bt308.2.1 bt308.2.2 bt314.1 bt314.2.1 bt314.2.2).bind fun bt317 => ((laws_eqMotion.f bt317.1 bt317.2.1 bt317.2.2.1 bt303.1 bt303.2.1 bt303.2.2.1).bind fun t322 => (if t322 = true then (laws_FnExactInverseMotion.j0 k (bt317.2.2.2 != bt303.2.2.2) a0_0 a0_1 l0_2 bt308.1 bt308.2.1 bt308.2.2) else (laws_FnExactInverseMotion.j0 k true a0_0 a0_1 l0_2 bt308.1 bt308.2.1 bt308.2.2))))))))))) = some r := h
 clear h
 replace H := Option.bind_eq_some_iff.mp H
 obtain ⟨t294, A30, H⟩ := H
 replace H : (if t294 < 0 then (some true) else ((laws_toTiling.f k a0_0 a0_1 l0_2).bind fun bt295 => ((laws_toMotion.f a1_0 a1_1 a1_2).bind fun bt300 => ((spec_InverseMotion.f k bt295.1 bt295.2.1 bt295.2.2 bt300.1 bt300.2.1 bt300.2.2).bind fun bt303 => ((laws_toTiling.f k a0_0 a0_1 l0_2).bind fun bt308 => ((laws_toMotion.f a1_0 a1_1 a1_2).bind fun bt314 => ((impl_InverseMotion.f k bt308.1 bt308.2.1 bt308.2.2 bt314.1 bt314.2.1 bt314.2.2).bind fun bt317 => ((laws_eqMotion.f bt317.1 bt317.2.1 bt317.2.2.1 bt303.1 bt303.2.1 bt303.2.2.1).bind fun t322 => (if t322 = true then (laws_FnExactInverseMotion.j0 k (bt317.2.2.2 != bt303.2.2.2) a0_0 a0_1 l0_2 bt308.1 bt308.2.1 bt308.2.2) else (laws_FnExactInverseMotion.j0 k true a0_0 a0_1 l0_2 bt308.1 bt308.2.1 bt308.2.2)))))))))) = some r := H
 have A3 := mkA A30
 clear A30
 by_cases c4 : t294 < 0
 · rw [if_pos c4] at H
   have c4b0 : decide (t294 < 0) = true := decide_eq_true c4
   clear c4
   obtain rfl := Option.some.inj H
   go_enter Try.func7, Try.ntmps7
   go_wp2_with (first | ((with_reducible refine gate_dst (N := 2) rfl ?_); refine box_event ?hg (N := 2) ?hd (cs := #[.int .i64 a0_0, .int .i64 a0_1, .slice A0_2 l0_2.length c0_2]) (t := 24) ?hr ?_; (case hd => rfl); (case hg => rfl); (case hr => first | (go_simp; done) | (go_simp; rfl)); intro gb292 hg w5 hbox hb; have n0_ := mkA (below_step (bs0_ HB.out) hb); have n1_ := mkA (hbox); have n2_ := mkA ((by rw [hg]; exact (below_size (bs0_ HB.out)) : w.heap.size ≤ gb292)); have n3_ := mkA ((by rw [hg]; exact (below_size (bs0_ HB.out)) : w.heap.size ≤ gb292)); clear HB; have HB := n0_; have BK292 := n1_; have GW292 := n2_; have GE292 := n3_; clear n0_ n1_ n2_ n3_; clear hb hbox hg) | ((with_reducible refine gate_dst (N := 3) rfl ?_); refine box_event ?hg (N := 3) ?hd (cs := #[.int .i64 a1_0, .int .i64 a1_1, .int .i64 a1_2]) (t := 26) ?hr ?_; (case hd => rfl); (case hg => rfl); (case hr => first | (go_simp; done) | (go_simp; rfl)); intro gb293 hg w6 hbox hb; have n0_ := mkA (blk_below (g := gb292) (o := .cells #[.int .i64 a0_0, .int .i64 a0_1, .slice A0_2 l0_2.length c0_2] 24 (0, 0)) (bl_ BK292.out) hb); have n1_ := mkA (below_step (bs1_ HB.out GE292.out) hb); have n2_ := mkA (hbox); have n3_ := mkA ((by rw [hg]; exact (below_size (bs1_ HB.out GE292.out)) : w.heap.size ≤ gb293)); have n4_ := mkA ((by rw [hg]; exact (below_size (bs1_ HB.out GE292.out)) : w.heap.size ≤ gb293)); have n5_ := mkA ((by rw [hg]; exact Nat.ne_of_lt (blk_lt (g := gb292) (o := .cells #[.int .i64 a0_0, .int .i64 a0_1, .slice A0_2 l0_2.length c0_2] 24 (0, 0)) (bl_ BK292.out)) : gb292 ≠ gb293)); have n6_ := mkA ((by rw [hg]; exact Nat.ne_of_gt (blk_lt (g := gb292) (o := .cells #[.int .i64 a0_0, .int .i64 a0_1, .slice A0_2 l0_2.length c0_2] 24 (0, 0)) (bl_ BK292.out)) : gb293 ≠ gb292)); clear BK292; clear HB; have BK292 := n0_; have HB := n1_; have BK293 := n2_; have GW293 := n3_; have GE293 := n4_; have NB292_293 := n5_; have NB293_292 := n6_; clear n0_ n1_ n2_ n3_ n4_ n5_ n6_; clear hb hbox hg; have hnb7 := NB292_293.out; have hnc7 := NB293_292.out; have hcz8_0 : w6.cell? ⟨gb292, 0, none⟩ = some (.int .i64 a0_0) := (blk_cell BK292.out 0).trans rfl; have hcz8_1 : w6.cell? ⟨gb292, 1, none⟩ = some (.int .i64 a0_1) := (blk_cell BK292.out 1).trans rfl; have hcz8_2 : w6.cell? ⟨gb292, 2, none⟩ = some (.slice A0_2 l0_2.length c0_2) := (blk_cell BK292.out 2).trans rfl; have hfz8_0 := blk_frozen BK292.out 0; have hfz8_1 := blk_frozen BK292.out 1; have hfz8_2 := blk_frozen BK292.out 2) | ((with_reducible refine gate_callee (f := 15) rfl ?_); refine goesL_ (some 13) rfl rfl Try.func15 (by kernel_rfl) rfl #[.agg #[.int .i64 a0_0, .int .i64 a0_1, .slice A0_2 l0_2.length c0_2], .int .i64 1048576] rfl (by (try simp only [List.map_toArray, List.map_cons, List.map_nil]); first | done | rfl | (simp only [List.length_drop, List.length_take]; rfl)) ?_; (with_reducible refine (laws_szTiling.calls a0_0 a0_1 _ _ l0_2 1048576 t294 _ ?side1 ?side2 A3.out).mono ?_); (case side1 => exact cb_ HR0_2.out HB.out); (case side2 => exact HC0_2.out); rintro e w9 ⟨rfl, hb⟩; refine ⟨_, rfl, ?_⟩; have n0_ := mkA (blk_below (g := gb292) (o := .cells #[.int .i64 a0_0, .int .i64 a0_1, .slice A0_2 l0_2.length c0_2] 24 (0, 0)) (bl_ BK292.out) hb); have n1_ := mkA (blk_below (g := gb293) (o := .cells #[.int .i64 a1_0, .int .i64 a1_1, .int .i64 a1_2] 26 (0, 0)) (bl_ BK293.out) hb); have n2_ := mkA (below_step (bs2_ HB.out GE292.out GE293.out) hb); clear BK292; clear BK293; clear HB; have BK292 := n0_; have BK293 := n1_; have HB := n2_; clear n0_ n1_ n2_; (try clear hb); (try clear hb2); (try clear hk); (try clear hi)))
   go_ret
   exact ⟨by first | rfl | (simp [errW_none, errW_some] <;> rfl) | (simp [*, errW_none, errW_some] <;> rfl), by repeat (first | (with_reducible first | exact HB.out | apply below_alloc | apply pw_below_drewN | apply below_drew1 | refine below_set ?_ GE292.out | refine below_set ?_ GE293.out) | exact HB.out)⟩
 · rw [if_neg c4] at H
   have c4b0 : decide (t294 < 0) = false := decide_eq_false c4
   clear c4
   replace H := Option.bind_eq_some_iff.mp H
   obtain ⟨⟨t295, t296, t297⟩, A100, H⟩ := H
   replace H : ((laws_toMotion.f a1_0 a1_1 a1_2).bind fun bt300 => ((spec_InverseMotion.f k t295 t296 t297 bt300.1 bt300.2.1 bt300.2.2).bind fun bt303 => ((laws_toTiling.f k a0_0 a0_1 l0_2).bind fun bt308 => ((laws_toMotion.f a1_0 a1_1 a1_2).bind fun bt314 => ((impl_InverseMotion.f k bt308.1 bt308.2.1 bt308.2.2 bt314.1 bt314.2.1 bt314.2.2).bind fun bt317 => ((laws_eqMotion.f bt317.1 bt317.2.1 bt317.2.2.1 bt303.1 bt303.2.1 bt303.2.2.1).bind fun t322 => (if t322 = true then (laws_FnExactInverseMotion.j0 k (bt317.2.2.2 != bt303.2.2.2) a0_0 a0_1 l0_2 bt308.1 bt308.2.1 bt308.2.2) else (laws_FnExactInverseMotion.j0 k true a0_0 a0_1 l0_2 bt308.1 bt308.2.1 bt308.2.2)))))))) = some r := H
   have A10 := mkA A100
   clear A100
   replace H := Option.bind_eq_some_iff.mp H
   obtain ⟨⟨t300, t301, t302⟩, A110, H⟩ := H
   replace H : ((spec_InverseMotion.f k t295 t296 t297 t300 t301 t302).bind fun bt303 => ((laws_toTiling.f k a0_0 a0_1 l0_2).bind fun bt308 => ((laws_toMotion.f a1_0 a1_1 a1_2).bind fun bt314 => ((impl_InverseMotion.f k bt308.1 bt308.2.1 bt308.2.2 bt314.1 bt314.2.1 bt314.2.2).bind fun bt317 => ((laws_eqMotion.f bt317.1 bt317.2.1 bt317.2.2.1 bt303.1 bt303.2.1 bt303.2.2.1).bind fun t322 => (if t322 = true then (laws_FnExactInverseMotion.j0 k (bt317.2.2.2 != bt303.2.2.2) a0_0 a0_1 l0_2 bt308.1 bt308.2.1 bt308.2.2) else (laws_FnExactInverseMotion.j0 k true a0_0 a0_1 l0_2 bt308.1 bt308.2.1 bt308.2.2))))))) = some r := H
   have A11 := mkA A110
   clear A110
   replace H := Option.bind_eq_some_iff.mp H
   obtain ⟨⟨t303, t304, t305, t306⟩, A120, H⟩ := H
   replace H : ((laws_toTiling.f k a0_0 a0_1 l0_2).bind fun bt308 => ((laws_toMotion.f a1_0 a1_1 a1_2).bind fun bt314 => ((impl_InverseMotion.f k bt308.1 bt308.2.1 bt308.2.2 bt314.1 bt314.2.1 bt314.2.2).bind fun bt317 => ((laws_eqMotion.f bt317.1 bt317.2.1 bt317.2.2.1 t303 t304 t305).bind fun t322 => (if t322 = true then (laws_FnExactInverseMotion.j0 k (bt317.2.2.2 != t306) a0_0 a0_1 l0_2 bt308.1 bt308.2.1 bt308.2.2) else (laws_FnExactInverseMotion.j0 k true a0_0 a0_1 l0_2 bt308.1 bt308.2.1 bt308.2.2)))))) = some r := H
   have A12 := mkA A120
   clear A120
   replace H := Option.bind_eq_some_iff.mp H
   obtain ⟨⟨t308, t309, t310⟩, A130, H⟩ := H
   replace H : ((laws_toMotion.f a1_0 a1_1 a1_2).bind fun bt314 => ((impl_InverseMotion.f k t308 t309 t310 bt314.1 bt314.2.1 bt314.2.2).bind fun bt317 => ((laws_eqMotion.f bt317.1 bt317.2.1 bt317.2.2.1 t303 t304 t305).bind fun t322 => (if t322 = true then (laws_FnExactInverseMotion.j0 k (bt317.2.2.2 != t306) a0_0 a0_1 l0_2 t308 t309 t310) else (laws_FnExactInverseMotion.j0 k true a0_0 a0_1 l0_2 t308 t309 t310))))) = some r := H
   have A13 := mkA A130
   clear A130
   replace H := Option.bind_eq_some_iff.mp H
   obtain ⟨⟨t314, t315, t316⟩, A140, H⟩ := H
   replace H : ((impl_InverseMotion.f k t308 t309 t310 t314 t315 t316).bind fun bt317 => ((laws_eqMotion.f bt317.1 bt317.2.1 bt317.2.2.1 t303 t304 t305).bind fun t322 => (if t322 = true then (laws_FnExactInverseMotion.j0 k (bt317.2.2.2 != t306) a0_0 a0_1 l0_2 t308 t309 t310) else (laws_FnExactInverseMotion.j0 k true a0_0 a0_1 l0_2 t308 t309 t310)))) = some r := H
   have A14 := mkA A140
   clear A140
   replace H := Option.bind_eq_some_iff.mp H
   obtain ⟨⟨t317, t318, t319, t320⟩, A150, H⟩ := H
   replace H : ((laws_eqMotion.f t317 t318 t319 t303 t304 t305).bind fun t322 => (if t322 = true then (laws_FnExactInverseMotion.j0 k (t320 != t306) a0_0 a0_1 l0_2 t308 t309 t310) else (laws_FnExactInverseMotion.j0 k true a0_0 a0_1 l0_2 t308 t309 t310))) = some r := H
   have A15 := mkA A150
   clear A150
   have HC16 := mkA H
   clear H
   go_enter Try.func7, Try.ntmps7
   try go_wp2_with (first | ((with_reducible refine gate_dst (N := 2) rfl ?_); refine box_event ?hg (N := 2) ?hd (cs := #[.int .i64 a0_0, .int .i64 a0_1, .slice A0_2 l0_2.length c0_2]) (t := 24) ?hr ?_; (case hd => rfl); (case hg => rfl); (case hr => first | (go_simp; done) | (go_simp; rfl)); intro gb292 hg w17 hbox hb; have n0_ := mkA (below_step (bs0_ HB.out) hb); have n1_ := mkA (hbox); have n2_ := mkA ((by rw [hg]; exact (below_size (bs0_ HB.out)) : w.heap.size ≤ gb292)); have n3_ := mkA ((by rw [hg]; exact (below_size (bs0_ HB.out)) : w.heap.size ≤ gb292)); clear HB; have HB := n0_; have BK292 := n1_; have GW292 := n2_; have GE292 := n3_; clear n0_ n1_ n2_ n3_; clear hb hbox hg) | ((with_reducible refine gate_dst (N := 3) rfl ?_); refine box_event ?hg (N := 3) ?hd (cs := #[.int .i64 a1_0, .int .i64 a1_1, .int .i64 a1_2]) (t := 26) ?hr ?_; (case hd => rfl); (case hg => rfl); (case hr => first | (go_simp; done) | (go_simp; rfl)); intro gb293 hg w18 hbox hb; have n0_ := mkA (blk_below (g := gb292) (o := .cells #[.int .i64 a0_0, .int .i64 a0_1, .slice A0_2 l0_2.length c0_2] 24 (0, 0)) (bl_ BK292.out) hb); have n1_ := mkA (below_step (bs1_ HB.out GE292.out) hb); have n2_ := mkA (hbox); have n3_ := mkA ((by rw [hg]; exact (below_size (bs1_ HB.out GE292.out)) : w.heap.size ≤ gb293)); have n4_ := mkA ((by rw [hg]; exact (below_size (bs1_ HB.out GE292.out)) : w.heap.size ≤ gb293)); have n5_ := mkA ((by rw [hg]; exact Nat.ne_of_lt (blk_lt (g := gb292) (o := .cells #[.int .i64 a0_0, .int .i64 a0_1, .slice A0_2 l0_2.length c0_2] 24 (0, 0)) (bl_ BK292.out)) : gb292 ≠ gb293)); have n6_ := mkA ((by rw [hg]; exact Nat.ne_of_gt (blk_lt (g := gb292) (o := .cells #[.int .i64 a0_0, .int .i64 a0_1, .slice A0_2 l0_2.length c0_2] 24 (0, 0)) (bl_ BK292.out)) : gb293 ≠ gb292)); clear BK292; clear HB; have BK292 := n0_; have HB := n1_; have BK293 := n2_; have GW293 := n3_; have GE293 := n4_; have NB292_293 := n5_; have NB293_292 := n6_; clear n0_ n1_ n2_ n3_ n4_ n5_ n6_; clear hb hbox hg; have hnb19 := NB292_293.out; have hnc19 := NB293_292.out; have hcz20_0 : w18.cell? ⟨gb292, 0, none⟩ = some (.int .i64 a0_0) := (blk_cell BK292.out 0).trans rfl; have hcz20_1 : w18.cell? ⟨gb292, 1, none⟩ = some (.int .i64 a0_1) := (blk_cell BK292.out 1).trans rfl; have hcz20_2 : w18.cell? ⟨gb292, 2, none⟩ = some (.slice A0_2 l0_2.length c0_2) := (blk_cell BK292.out 2).trans rfl; have hfz20_0 := blk_frozen BK292.out 0; have hfz20_1 := blk_frozen BK292.out 1; have hfz20_2 := blk_frozen BK292.out 2) | ((with_reducible refine gate_callee (f := 15) rfl ?_); refine goesL_ (some 13) rfl rfl Try.func15 (by kernel_rfl) rfl #[.agg #[.int .i64 a0_0, .int .i64 a0_1, .slice A0_2 l0_2.length c0_2], .int .i64 1048576] rfl (by (try simp only [List.map_toArray, List.map_cons, List.map_nil]); first | done | rfl | (simp only [List.length_drop, List.length_take]; rfl)) ?_; (with_reducible refine (laws_szTiling.calls a0_0 a0_1 _ _ l0_2 1048576 t294 _ ?side1 ?side2 A3.out).mono ?_); (case side1 => exact cb_ HR0_2.out HB.out); (case side2 => exact HC0_2.out); rintro e w21 ⟨rfl, hb⟩; refine ⟨_, rfl, ?_⟩; have n0_ := mkA (blk_below (g := gb292) (o := .cells #[.int .i64 a0_0, .int .i64 a0_1, .slice A0_2 l0_2.length c0_2] 24 (0, 0)) (bl_ BK292.out) hb); have n1_ := mkA (blk_below (g := gb293) (o := .cells #[.int .i64 a1_0, .int .i64 a1_1, .int .i64 a1_2] 26 (0, 0)) (bl_ BK293.out) hb); have n2_ := mkA (below_step (bs2_ HB.out GE292.out GE293.out) hb); clear BK292; clear BK293; clear HB; have BK292 := n0_; have BK293 := n1_; have HB := n2_; clear n0_ n1_ n2_; (try clear hb); (try clear hb2); (try clear hk); (try clear hi)))
   have n0_ := mkA (blk_drew BK292.out)
   have n1_ := mkA (blk_drew BK293.out)
   have n2_ := mkA (below_drew1 HB.out)
   clear BK292
   clear BK293
   clear HB
   have BK292 := n0_
   have BK293 := n1_
   have HB := n2_
   clear n0_ n1_ n2_
   refine start_ (n := 11) (S := fun w' => w'.cell? ⟨gb292, 0, none⟩ = some (.int .i64 a0_0) ∧ w'.cell? ⟨gb292, 1, none⟩ = some (.int .i64 a0_1) ∧ w'.cell? ⟨gb292, 2, none⟩ = some (.slice A0_2 l0_2.length c0_2) ∧ w'.cell? ⟨gb293, 0, none⟩ = some (.int .i64 a1_0) ∧ w'.cell? ⟨gb293, 1, none⟩ = some (.int .i64 a1_1) ∧ w'.cell? ⟨gb293, 2, none⟩ = some (.int .i64 a1_2)) (ds := []) laws_FnExactInverseMotion.d0 (by kernel_rfl) rfl rfl ⟨(blk_cell BK292.out 0).trans rfl, (blk_cell BK292.out 1).trans rfl, (blk_cell BK292.out 2).trans rfl, (blk_cell BK293.out 0).trans rfl, (blk_cell BK293.out 1).trans rfl, (blk_cell BK293.out 2).trans rfl⟩ (fun hHeld => ?_); refine with_tabW laws_FnExactInverseMotion.tab5 laws_FnExactInverseMotion.bits5 (fun HT_ HW_ => ?_)
   generalize w21.drew = w22 at BK292 BK293 HB hHeld ⊢
   refine take_ (i := 0) (N := some 17) (v := ?_) (a' := ?_) laws_FnExactInverseMotion.d1 rfl rfl (take_ofW HT_.out HW_.out (by kernel_rfl)) (fun _ _ _ h => h) (Or.inl ⟨by rfl, ?_⟩) hHeld ?_ ?_
   rotate_left
   · rintro w' ⟨s0, s1, s2, s3, s4, s5⟩
     go_simp
     with_reducible rfl
   rotate_left
   · simp only [Act.put, sA, sB, sC, i64_w, i32_w]
     rfl
   refine take_ (i := 2) (N := some 19) (v := ?_) (a' := ?_) laws_FnExactInverseMotion.d2 rfl rfl (take_ofW HT_.out HW_.out (by kernel_rfl)) (fun _ _ _ h => h) (Or.inl ⟨by rfl, ?_⟩) hHeld ?_ ?_
   rotate_left
   · rintro w' ⟨s0, s1, s2, s3, s4, s5⟩
     go_simp
     with_reducible rfl
   rotate_left
   · simp only [Act.put, sA, sB, sC, i64_w, i32_w]
     rfl
   refine join_ (σ := Value × Nat) 2 laws_FnExactInverseMotion.d3 (fun s_ => [(18, .agg #[.int .i64 t295, .int .i64 t296, s_.1]), (20, .agg #[.int .i64 t300, .int .i64 t301, .int .i64 t302]), (21, .tuple #[.agg #[.int .i64 t303, .int .i64 t304, .int .i64 t305], .int .i64 t306]), (6, .pointer (some ⟨s_.2, 0, none⟩)), (16, .tuple #[.agg #[.int .i64 t303, .int .i64 t304, .int .i64 t305], .int .i64 t306]), (22, .agg #[.int .i64 t303, .int .i64 t304, .int .i64 t305]), (23, .int .i64 t306)]) (fun s_ w' => (w'.cell? ⟨gb292, 0, none⟩ = some (.int .i64 a0_0) ∧ w'.cell? ⟨gb292, 1, none⟩ = some (.int .i64 a0_1) ∧ w'.cell? ⟨gb292, 2, none⟩ = some (.slice A0_2 l0_2.length c0_2) ∧ w'.cell? ⟨gb293, 0, none⟩ = some (.int .i64 a1_0) ∧ w'.cell? ⟨gb293, 1, none⟩ = some (.int .i64 a1_1) ∧ w'.cell? ⟨gb293, 2, none⟩ = some (.int .i64 a1_2)) ∧ (Kd.R (Kd.int .i64) 2 w' w.heap.size (fun _ => True) s_.1 t297) ∧ (w'.heap[gb292]? = some (.cells #[.int .i64 a0_0, .int .i64 a0_1, .slice A0_2 l0_2.length c0_2] 24 (0, 0))) ∧ (w'.heap[gb293]? = some (.cells #[.int .i64 a1_0, .int .i64 a1_1, .int .i64 a1_2] 26 (0, 0))) ∧ (w'.heap[s_.2]? = some (.cells #[.int .i64 0, .int .i64 0, .int .i64 0] 31 (0, 0))) ∧ (w.heap.size ≤ s_.2) ∧ (w.heap.size ≤ s_.2) ∧ (gb292 ≠ s_.2) ∧ (s_.2 ≠ gb292) ∧ (gb293 ≠ s_.2) ∧ (s_.2 ≠ gb293) ∧ (Below w.heap.size w w')) ?_ ?_
   rotate_left
   · intro hCont
     refine two_ (i := 1) (j := 8) (Ni := some 18) (Nj := some 6) laws_FnExactInverseMotion.d4 laws_FnExactInverseMotion.d5 rfl rfl rfl rfl (two_of HT_.out (by kernel_rfl)) (by decide) (by decide) (fun K hK => ?_) (fun K hK => ?_)
     · skip
       refine goes_ Try.func17 (by kernel_rfl) rfl #[.agg #[.int .i64 a0_0, .int .i64 a0_1, .slice A0_2 l0_2.length c0_2]] (by rfl) rfl rfl (by (try simp only [List.map_toArray, List.map_cons, List.map_nil]); first | done | rfl | (simp only [List.length_drop, List.length_take]; rfl)) ?_
       with_reducible refine (laws_toTiling.calls k a0_0 a0_1 _ _ l0_2 t295 t296 t297 _ ?side1 ?side2 A10.out).mono ?_
       (case side1 => exact cb_ HR0_2.out HB.out)
       (case side2 => exact HC0_2.out)
       rintro e w23 ⟨v298, rfl, ho0, hb⟩
       refine ⟨_, rfl, ?_⟩
       have n0_ := mkA (Kd.R_lower ho0 (below_size (bs2_ HB.out GE292.out GE293.out)))
       have n1_ := mkA (blk_below (g := gb292) (o := .cells #[.int .i64 a0_0, .int .i64 a0_1, .slice A0_2 l0_2.length c0_2] 24 (0, 0)) (bl_ BK292.out) hb)
       have n2_ := mkA (blk_below (g := gb293) (o := .cells #[.int .i64 a1_0, .int .i64 a1_1, .int .i64 a1_2] 26 (0, 0)) (bl_ BK293.out) hb)
       have n3_ := mkA (below_step (bs2_ HB.out GE292.out GE293.out) hb)
       clear BK292
       clear BK293
       clear HB
       have HO299 := n0_
       have BK292 := n1_
       have BK293 := n2_
       have HB := n3_
       clear n0_ n1_ n2_ n3_
       (try clear hb)
       (try clear hb2)
       (try clear hk)
       (try clear hi)
       (try clear ho0)
       refine hK.out _ _ ⟨(blk_cell BK292.out 0).trans rfl, (blk_cell BK292.out 1).trans rfl, (blk_cell BK292.out 2).trans rfl, (blk_cell BK293.out 0).trans rfl, (blk_cell BK293.out 1).trans rfl, (blk_cell BK293.out 2).trans rfl⟩ (fun hHeld => ?_)
       clear hK K
       refine norm_ (a' := ?_) ?_ ?_
       rotate_left
       · show Act.put _ (some 18) _ = _
         simp only [Act.put, sA, sB, sC, i64_w, i32_w]
         rfl
       refine two_ (i := 3) (j := 8) (Ni := some 20) (Nj := some 6) laws_FnExactInverseMotion.d6 laws_FnExactInverseMotion.d7 rfl rfl rfl rfl (two_of HT_.out (by kernel_rfl)) (by decide) (by decide) (fun K hK => ?_) (fun K hK => ?_)
       · skip
         refine goes_ Try.func18 (by kernel_rfl) rfl #[.agg #[.int .i64 a1_0, .int .i64 a1_1, .int .i64 a1_2]] (by rfl) rfl rfl (by (try simp only [List.map_toArray, List.map_cons, List.map_nil]); first | done | rfl | (simp only [List.length_drop, List.length_take]; rfl)) ?_
         with_reducible refine (laws_toMotion.calls a1_0 a1_1 a1_2 t300 t301 t302 _ A11.out).mono ?_
         rintro e w24 ⟨rfl, hb⟩
         refine ⟨_, rfl, ?_⟩
         have n0_ := mkA (Kd.R_below (by (with_reducible repeat (first | apply Kd.R_alloc | apply Kd.R_drewN | apply Kd.R_drew)); exact HO299.out) hb)
         have n1_ := mkA (blk_below (g := gb292) (o := .cells #[.int .i64 a0_0, .int .i64 a0_1, .slice A0_2 l0_2.length c0_2] 24 (0, 0)) (bl_ BK292.out) hb)
         have n2_ := mkA (blk_below (g := gb293) (o := .cells #[.int .i64 a1_0, .int .i64 a1_1, .int .i64 a1_2] 26 (0, 0)) (bl_ BK293.out) hb)
         have n3_ := mkA (below_step (bs2_ HB.out GE292.out GE293.out) hb)
         clear HO299
         clear BK292
         clear BK293
         clear HB
         have HO299 := n0_
         have BK292 := n1_
         have BK293 := n2_
         have HB := n3_
         clear n0_ n1_ n2_ n3_
         (try clear hb)
         (try clear hb2)
         (try clear hk)
         (try clear hi)
         obtain ⟨Ao25, co25, eo25⟩ := Kd.R_slice HO299.out
         (first | subst eo25 | (injection eo25 with f1_ f2_ f3_; have f4_ := f1_.symm; have f5_ := f3_.symm; clear f1_ f2_ f3_; subst f4_; subst f5_))
         refine hK.out _ _ ⟨(blk_cell BK292.out 0).trans rfl, (blk_cell BK292.out 1).trans rfl, (blk_cell BK292.out 2).trans rfl, (blk_cell BK293.out 0).trans rfl, (blk_cell BK293.out 1).trans rfl, (blk_cell BK293.out 2).trans rfl⟩ (fun hHeld => ?_)
         clear hK K
         refine norm_ (a' := ?_) ?_ ?_
         rotate_left
         · show Act.put _ (some 20) _ = _
           simp only [Act.put, sA, sB, sC, i64_w, i32_w]
           rfl
         refine two_ (i := 4) (j := 8) (Ni := some 21) (Nj := some 6) laws_FnExactInverseMotion.d8 laws_FnExactInverseMotion.d9 rfl rfl rfl rfl (two_of HT_.out (by kernel_rfl)) (by decide) (by decide) (fun K hK => ?_) (fun K hK => ?_)
         · skip
           refine goes_ Try.func32 (by kernel_rfl) rfl #[.agg #[.int .i64 t295, .int .i64 t296, .slice Ao25 t297.length co25], .agg #[.int .i64 t300, .int .i64 t301, .int .i64 t302]] (by rfl) rfl rfl (by (try simp only [List.map_toArray, List.map_cons, List.map_nil]); first | done | rfl | (simp only [List.length_drop, List.length_take]; rfl)) ?_
           with_reducible refine (spec_InverseMotion.calls k t295 t296 _ _ t297 t300 t301 t302 t303 t304 t305 t306 _ ?side1 ?side2 A12.out).mono ?_
           (case side1 => repeat (first | exact (Kd.R_reads' HO299.out).2.2 | (with_reducible refine Kd.C_alloc ?_ _) | (with_reducible refine Kd.C_drewN ?_ _) | (with_reducible refine Kd.C_drew ?_)))
           (case side2 => exact (Kd.R_reads' HO299.out).2.1)
           rintro e w26 ⟨rfl, hb⟩
           refine ⟨_, rfl, ?_⟩
           have n0_ := mkA (Kd.R_below (by (with_reducible repeat (first | apply Kd.R_alloc | apply Kd.R_drewN | apply Kd.R_drew)); exact HO299.out) hb)
           have n1_ := mkA (blk_below (g := gb292) (o := .cells #[.int .i64 a0_0, .int .i64 a0_1, .slice A0_2 l0_2.length c0_2] 24 (0, 0)) (bl_ BK292.out) hb)
           have n2_ := mkA (blk_below (g := gb293) (o := .cells #[.int .i64 a1_0, .int .i64 a1_1, .int .i64 a1_2] 26 (0, 0)) (bl_ BK293.out) hb)
           have n3_ := mkA (below_step (bs2_ HB.out GE292.out GE293.out) hb)
           clear HO299
           clear BK292
           clear BK293
           clear HB
           have HO299 := n0_
           have BK292 := n1_
           have BK293 := n2_
           have HB := n3_
           clear n0_ n1_ n2_ n3_
           (try clear hb)
           (try clear hb2)
           (try clear hk)
           (try clear hi)
           refine hK.out _ _ ⟨(blk_cell BK292.out 0).trans rfl, (blk_cell BK292.out 1).trans rfl, (blk_cell BK292.out 2).trans rfl, (blk_cell BK293.out 0).trans rfl, (blk_cell BK293.out 1).trans rfl, (blk_cell BK293.out 2).trans rfl⟩ (fun hHeld => ?_)
           clear hK K
           refine norm_ (a' := ?_) ?_ ?_
           rotate_left
           · show Act.put _ (some 21) _ = _
             simp only [Act.put, sA, sB, sC, i64_w, i32_w]
             rfl
           refine p1_ HT_.out 5 16 laws_FnExactInverseMotion.d10 ?_
           refine p1_ HT_.out 6 22 laws_FnExactInverseMotion.d11 ?_
           refine p1_ HT_.out 7 23 laws_FnExactInverseMotion.d12 ?_
           refine one_ (i := 8) (N := some 6) laws_FnExactInverseMotion.d3 rfl rfl (one_of HT_.out (by kernel_rfl)) (by decide) (fun K hK => ?_)
           refine box_step ?hg (N := 6) ?hd (cs := #[.int .i64 0, .int .i64 0, .int .i64 0]) (t := 31) ?hr ?_; (case hd => rfl); (case hg => rfl); (case hr => first | (go_simp; done) | (go_simp; rfl))
           intro gb307 hg w27 hbox hb
           have n0_ := mkA (Kd.R_below (by (with_reducible repeat (first | apply Kd.R_alloc | apply Kd.R_drewN | apply Kd.R_drew)); exact HO299.out) hb)
           have n1_ := mkA (blk_below (g := gb292) (o := .cells #[.int .i64 a0_0, .int .i64 a0_1, .slice A0_2 l0_2.length c0_2] 24 (0, 0)) (bl_ BK292.out) hb)
           have n2_ := mkA (blk_below (g := gb293) (o := .cells #[.int .i64 a1_0, .int .i64 a1_1, .int .i64 a1_2] 26 (0, 0)) (bl_ BK293.out) hb)
           have n3_ := mkA (below_step (bs2_ HB.out GE292.out GE293.out) hb)
           have n4_ := mkA (hbox)
           have n5_ := mkA ((by rw [hg]; exact (below_size (bs2_ HB.out GE292.out GE293.out)) : w.heap.size ≤ gb307))
           have n6_ := mkA ((by rw [hg]; exact (below_size (bs2_ HB.out GE292.out GE293.out)) : w.heap.size ≤ gb307))
           have n7_ := mkA ((by rw [hg]; exact Nat.ne_of_lt (blk_lt (g := gb292) (o := .cells #[.int .i64 a0_0, .int .i64 a0_1, .slice A0_2 l0_2.length c0_2] 24 (0, 0)) (bl_ BK292.out)) : gb292 ≠ gb307))
           have n8_ := mkA ((by rw [hg]; exact Nat.ne_of_gt (blk_lt (g := gb292) (o := .cells #[.int .i64 a0_0, .int .i64 a0_1, .slice A0_2 l0_2.length c0_2] 24 (0, 0)) (bl_ BK292.out)) : gb307 ≠ gb292))
           have n9_ := mkA ((by rw [hg]; exact Nat.ne_of_lt (blk_lt (g := gb293) (o := .cells #[.int .i64 a1_0, .int .i64 a1_1, .int .i64 a1_2] 26 (0, 0)) (bl_ BK293.out)) : gb293 ≠ gb307))
           have n10_ := mkA ((by rw [hg]; exact Nat.ne_of_gt (blk_lt (g := gb293) (o := .cells #[.int .i64 a1_0, .int .i64 a1_1, .int .i64 a1_2] 26 (0, 0)) (bl_ BK293.out)) : gb307 ≠ gb293))
           clear HO299
           clear BK292
           clear BK293
           clear HB
           have HO299 := n0_
           have BK292 := n1_
           have BK293 := n2_
           have HB := n3_
           have BK307 := n4_
           have GW307 := n5_
           have GE307 := n6_
           have NB292_307 := n7_
           have NB307_292 := n8_
           have NB293_307 := n9_
           have NB307_293 := n10_
           clear n0_ n1_ n2_ n3_ n4_ n5_ n6_ n7_ n8_ n9_ n10_
           clear hb hbox hg
           refine hK.out _ _ ⟨(blk_cell BK292.out 0).trans rfl, (blk_cell BK292.out 1).trans rfl, (blk_cell BK292.out 2).trans rfl, (blk_cell BK293.out 0).trans rfl, (blk_cell BK293.out 1).trans rfl, (blk_cell BK293.out 2).trans rfl⟩ (fun hHeld => ?_)
           clear hK K
           refine norm_ (a' := ?_) ?_ ?_
           rotate_left
           · show Act.put _ (some 6) _ = _
             simp only [Act.put, sA, sB, sC, i64_w, i32_w]
             rfl
           exact norm_ (by simp only [putAll, Act.put, sA, sB, sC]) (hCont (.slice Ao25 t297.length co25, gb307) _ ⟨hHeld, (by (with_reducible repeat (first | apply Kd.R_alloc | apply Kd.R_drewN | apply Kd.R_drew)); exact HO299.out), (bl_ BK292.out), (bl_ BK293.out), (bl_ BK307.out), GW307.out, GE307.out, NB292_307.out, NB307_292.out, NB293_307.out, NB307_293.out, (bs3_ HB.out GE292.out GE293.out GE307.out)⟩)
         · skip
           refine box_step ?hg (N := 6) ?hd (cs := #[.int .i64 0, .int .i64 0, .int .i64 0]) (t := 31) ?hr ?_; (case hd => rfl); (case hg => rfl); (case hr => first | (go_simp; done) | (go_simp; rfl))
           intro gb307 hg w25 hbox hb
           have n0_ := mkA (Kd.R_below (by (with_reducible repeat (first | apply Kd.R_alloc | apply Kd.R_drewN | apply Kd.R_drew)); exact HO299.out) hb)
           have n1_ := mkA (blk_below (g := gb292) (o := .cells #[.int .i64 a0_0, .int .i64 a0_1, .slice A0_2 l0_2.length c0_2] 24 (0, 0)) (bl_ BK292.out) hb)
           have n2_ := mkA (blk_below (g := gb293) (o := .cells #[.int .i64 a1_0, .int .i64 a1_1, .int .i64 a1_2] 26 (0, 0)) (bl_ BK293.out) hb)
           have n3_ := mkA (below_step (bs2_ HB.out GE292.out GE293.out) hb)
           have n4_ := mkA (hbox)
           have n5_ := mkA ((by rw [hg]; exact (below_size (bs2_ HB.out GE292.out GE293.out)) : w.heap.size ≤ gb307))
           have n6_ := mkA ((by rw [hg]; exact (below_size (bs2_ HB.out GE292.out GE293.out)) : w.heap.size ≤ gb307))
           have n7_ := mkA ((by rw [hg]; exact Nat.ne_of_lt (blk_lt (g := gb292) (o := .cells #[.int .i64 a0_0, .int .i64 a0_1, .slice A0_2 l0_2.length c0_2] 24 (0, 0)) (bl_ BK292.out)) : gb292 ≠ gb307))
           have n8_ := mkA ((by rw [hg]; exact Nat.ne_of_gt (blk_lt (g := gb292) (o := .cells #[.int .i64 a0_0, .int .i64 a0_1, .slice A0_2 l0_2.length c0_2] 24 (0, 0)) (bl_ BK292.out)) : gb307 ≠ gb292))
           have n9_ := mkA ((by rw [hg]; exact Nat.ne_of_lt (blk_lt (g := gb293) (o := .cells #[.int .i64 a1_0, .int .i64 a1_1, .int .i64 a1_2] 26 (0, 0)) (bl_ BK293.out)) : gb293 ≠ gb307))
           have n10_ := mkA ((by rw [hg]; exact Nat.ne_of_gt (blk_lt (g := gb293) (o := .cells #[.int .i64 a1_0, .int .i64 a1_1, .int .i64 a1_2] 26 (0, 0)) (bl_ BK293.out)) : gb307 ≠ gb293))
           clear HO299
           clear BK292
           clear BK293
           clear HB
           have HO299 := n0_
           have BK292 := n1_
           have BK293 := n2_
           have HB := n3_
           have BK307 := n4_
           have GW307 := n5_
           have GE307 := n6_
           have NB292_307 := n7_
           have NB307_292 := n8_
           have NB293_307 := n9_
           have NB307_293 := n10_
           clear n0_ n1_ n2_ n3_ n4_ n5_ n6_ n7_ n8_ n9_ n10_
           clear hb hbox hg
           obtain ⟨Ao26, co26, eo26⟩ := Kd.R_slice HO299.out
           (first | subst eo26 | (injection eo26 with f1_ f2_ f3_; have f4_ := f1_.symm; have f5_ := f3_.symm; clear f1_ f2_ f3_; subst f4_; subst f5_))
           refine hK.out _ _ ⟨(blk_cell BK292.out 0).trans rfl, (blk_cell BK292.out 1).trans rfl, (blk_cell BK292.out 2).trans rfl, (blk_cell BK293.out 0).trans rfl, (blk_cell BK293.out 1).trans rfl, (blk_cell BK293.out 2).trans rfl⟩ (fun hHeld => ?_)
           clear hK K
           refine norm_ (a' := ?_) ?_ ?_
           rotate_left
           · show Act.put _ (some 6) _ = _
             simp only [Act.put, sA, sB, sC, i64_w, i32_w]
             rfl
           refine one_ (i := 4) (N := some 21) laws_FnExactInverseMotion.d13 rfl rfl (one_of HT_.out (by kernel_rfl)) (by decide) (fun K hK => ?_)
           refine goes_ Try.func32 (by kernel_rfl) rfl #[.agg #[.int .i64 t295, .int .i64 t296, .slice Ao26 t297.length co26], .agg #[.int .i64 t300, .int .i64 t301, .int .i64 t302]] (by rfl) rfl rfl (by (try simp only [List.map_toArray, List.map_cons, List.map_nil]); first | done | rfl | (simp only [List.length_drop, List.length_take]; rfl)) ?_
           with_reducible refine (spec_InverseMotion.calls k t295 t296 _ _ t297 t300 t301 t302 t303 t304 t305 t306 _ ?side1 ?side2 A12.out).mono ?_
           (case side1 => repeat (first | exact (Kd.R_reads' HO299.out).2.2 | (with_reducible refine Kd.C_alloc ?_ _) | (with_reducible refine Kd.C_drewN ?_ _) | (with_reducible refine Kd.C_drew ?_)))
           (case side2 => exact (Kd.R_reads' HO299.out).2.1)
           rintro e w27 ⟨rfl, hb⟩
           refine ⟨_, rfl, ?_⟩
           have n0_ := mkA (Kd.R_below (by (with_reducible repeat (first | apply Kd.R_alloc | apply Kd.R_drewN | apply Kd.R_drew)); exact HO299.out) hb)
           have n1_ := mkA (blk_below (g := gb292) (o := .cells #[.int .i64 a0_0, .int .i64 a0_1, .slice A0_2 l0_2.length c0_2] 24 (0, 0)) (bl_ BK292.out) hb)
           have n2_ := mkA (blk_below (g := gb293) (o := .cells #[.int .i64 a1_0, .int .i64 a1_1, .int .i64 a1_2] 26 (0, 0)) (bl_ BK293.out) hb)
           have n3_ := mkA (blk_below (g := gb307) (o := .cells #[.int .i64 0, .int .i64 0, .int .i64 0] 31 (0, 0)) (bl_ BK307.out) hb)
           have n4_ := mkA (below_step (bs3_ HB.out GE292.out GE293.out GE307.out) hb)
           clear HO299
           clear BK292
           clear BK293
           clear BK307
           clear HB
           have HO299 := n0_
           have BK292 := n1_
           have BK293 := n2_
           have BK307 := n3_
           have HB := n4_
           clear n0_ n1_ n2_ n3_ n4_
           (try clear hb)
           (try clear hb2)
           (try clear hk)
           (try clear hi)
           refine hK.out _ _ ⟨(blk_cell BK292.out 0).trans rfl, (blk_cell BK292.out 1).trans rfl, (blk_cell BK292.out 2).trans rfl, (blk_cell BK293.out 0).trans rfl, (blk_cell BK293.out 1).trans rfl, (blk_cell BK293.out 2).trans rfl⟩ (fun hHeld => ?_)
           clear hK K
           refine norm_ (a' := ?_) ?_ ?_
           rotate_left
           · show Act.put _ (some 21) _ = _
             simp only [Act.put, sA, sB, sC, i64_w, i32_w]
             rfl
           refine p1_ HT_.out 5 16 laws_FnExactInverseMotion.d14 ?_
           refine p1_ HT_.out 6 22 laws_FnExactInverseMotion.d15 ?_
           refine p1_ HT_.out 7 23 laws_FnExactInverseMotion.d3 ?_
           exact norm_ (by simp only [putAll, Act.put, sA, sB, sC]) (hCont (.slice Ao26 t297.length co26, gb307) _ ⟨hHeld, (by (with_reducible repeat (first | apply Kd.R_alloc | apply Kd.R_drewN | apply Kd.R_drew)); exact HO299.out), (bl_ BK292.out), (bl_ BK293.out), (bl_ BK307.out), GW307.out, GE307.out, NB292_307.out, NB307_292.out, NB293_307.out, NB307_293.out, (bs3_ HB.out GE292.out GE293.out GE307.out)⟩)
       · skip
         refine box_step ?hg (N := 6) ?hd (cs := #[.int .i64 0, .int .i64 0, .int .i64 0]) (t := 31) ?hr ?_; (case hd => rfl); (case hg => rfl); (case hr => first | (go_simp; done) | (go_simp; rfl))
         intro gb307 hg w24 hbox hb
         have n0_ := mkA (Kd.R_below (by (with_reducible repeat (first | apply Kd.R_alloc | apply Kd.R_drewN | apply Kd.R_drew)); exact HO299.out) hb)
         have n1_ := mkA (blk_below (g := gb292) (o := .cells #[.int .i64 a0_0, .int .i64 a0_1, .slice A0_2 l0_2.length c0_2] 24 (0, 0)) (bl_ BK292.out) hb)
         have n2_ := mkA (blk_below (g := gb293) (o := .cells #[.int .i64 a1_0, .int .i64 a1_1, .int .i64 a1_2] 26 (0, 0)) (bl_ BK293.out) hb)
         have n3_ := mkA (below_step (bs2_ HB.out GE292.out GE293.out) hb)
         have n4_ := mkA (hbox)
         have n5_ := mkA ((by rw [hg]; exact (below_size (bs2_ HB.out GE292.out GE293.out)) : w.heap.size ≤ gb307))
         have n6_ := mkA ((by rw [hg]; exact (below_size (bs2_ HB.out GE292.out GE293.out)) : w.heap.size ≤ gb307))
         have n7_ := mkA ((by rw [hg]; exact Nat.ne_of_lt (blk_lt (g := gb292) (o := .cells #[.int .i64 a0_0, .int .i64 a0_1, .slice A0_2 l0_2.length c0_2] 24 (0, 0)) (bl_ BK292.out)) : gb292 ≠ gb307))
         have n8_ := mkA ((by rw [hg]; exact Nat.ne_of_gt (blk_lt (g := gb292) (o := .cells #[.int .i64 a0_0, .int .i64 a0_1, .slice A0_2 l0_2.length c0_2] 24 (0, 0)) (bl_ BK292.out)) : gb307 ≠ gb292))
         have n9_ := mkA ((by rw [hg]; exact Nat.ne_of_lt (blk_lt (g := gb293) (o := .cells #[.int .i64 a1_0, .int .i64 a1_1, .int .i64 a1_2] 26 (0, 0)) (bl_ BK293.out)) : gb293 ≠ gb307))
         have n10_ := mkA ((by rw [hg]; exact Nat.ne_of_gt (blk_lt (g := gb293) (o := .cells #[.int .i64 a1_0, .int .i64 a1_1, .int .i64 a1_2] 26 (0, 0)) (bl_ BK293.out)) : gb307 ≠ gb293))
         clear HO299
         clear BK292
         clear BK293
         clear HB
         have HO299 := n0_
         have BK292 := n1_
         have BK293 := n2_
         have HB := n3_
         have BK307 := n4_
         have GW307 := n5_
         have GE307 := n6_
         have NB292_307 := n7_
         have NB307_292 := n8_
         have NB293_307 := n9_
         have NB307_293 := n10_
         clear n0_ n1_ n2_ n3_ n4_ n5_ n6_ n7_ n8_ n9_ n10_
         clear hb hbox hg
         refine hK.out _ _ ⟨(blk_cell BK292.out 0).trans rfl, (blk_cell BK292.out 1).trans rfl, (blk_cell BK292.out 2).trans rfl, (blk_cell BK293.out 0).trans rfl, (blk_cell BK293.out 1).trans rfl, (blk_cell BK293.out 2).trans rfl⟩ (fun hHeld => ?_)
         clear hK K
         refine norm_ (a' := ?_) ?_ ?_
         rotate_left
         · show Act.put _ (some 6) _ = _
           simp only [Act.put, sA, sB, sC, i64_w, i32_w]
           rfl
         refine one_ (i := 3) (N := some 20) laws_FnExactInverseMotion.d9 rfl rfl (one_of HT_.out (by kernel_rfl)) (by decide) (fun K hK => ?_)
         refine goes_ Try.func18 (by kernel_rfl) rfl #[.agg #[.int .i64 a1_0, .int .i64 a1_1, .int .i64 a1_2]] (by rfl) rfl rfl (by (try simp only [List.map_toArray, List.map_cons, List.map_nil]); first | done | rfl | (simp only [List.length_drop, List.length_take]; rfl)) ?_
         with_reducible refine (laws_toMotion.calls a1_0 a1_1 a1_2 t300 t301 t302 _ A11.out).mono ?_
         rintro e w25 ⟨rfl, hb⟩
         refine ⟨_, rfl, ?_⟩
         have n0_ := mkA (Kd.R_below (by (with_reducible repeat (first | apply Kd.R_alloc | apply Kd.R_drewN | apply Kd.R_drew)); exact HO299.out) hb)
         have n1_ := mkA (blk_below (g := gb292) (o := .cells #[.int .i64 a0_0, .int .i64 a0_1, .slice A0_2 l0_2.length c0_2] 24 (0, 0)) (bl_ BK292.out) hb)
         have n2_ := mkA (blk_below (g := gb293) (o := .cells #[.int .i64 a1_0, .int .i64 a1_1, .int .i64 a1_2] 26 (0, 0)) (bl_ BK293.out) hb)
         have n3_ := mkA (blk_below (g := gb307) (o := .cells #[.int .i64 0, .int .i64 0, .int .i64 0] 31 (0, 0)) (bl_ BK307.out) hb)
         have n4_ := mkA (below_step (bs3_ HB.out GE292.out GE293.out GE307.out) hb)
         clear HO299
         clear BK292
         clear BK293
         clear BK307
         clear HB
         have HO299 := n0_
         have BK292 := n1_
         have BK293 := n2_
         have BK307 := n3_
         have HB := n4_
         clear n0_ n1_ n2_ n3_ n4_
         (try clear hb)
         (try clear hb2)
         (try clear hk)
         (try clear hi)
         obtain ⟨Ao26, co26, eo26⟩ := Kd.R_slice HO299.out
         (first | subst eo26 | (injection eo26 with f1_ f2_ f3_; have f4_ := f1_.symm; have f5_ := f3_.symm; clear f1_ f2_ f3_; subst f4_; subst f5_))
         refine hK.out _ _ ⟨(blk_cell BK292.out 0).trans rfl, (blk_cell BK292.out 1).trans rfl, (blk_cell BK292.out 2).trans rfl, (blk_cell BK293.out 0).trans rfl, (blk_cell BK293.out 1).trans rfl, (blk_cell BK293.out 2).trans rfl⟩ (fun hHeld => ?_)
         clear hK K
         refine norm_ (a' := ?_) ?_ ?_
         rotate_left
         · show Act.put _ (some 20) _ = _
           simp only [Act.put, sA, sB, sC, i64_w, i32_w]
           rfl
         refine one_ (i := 4) (N := some 21) laws_FnExactInverseMotion.d13 rfl rfl (one_of HT_.out (by kernel_rfl)) (by decide) (fun K hK => ?_)
         refine goes_ Try.func32 (by kernel_rfl) rfl #[.agg #[.int .i64 t295, .int .i64 t296, .slice Ao26 t297.length co26], .agg #[.int .i64 t300, .int .i64 t301, .int .i64 t302]] (by rfl) rfl rfl (by (try simp only [List.map_toArray, List.map_cons, List.map_nil]); first | done | rfl | (simp only [List.length_drop, List.length_take]; rfl)) ?_
         with_reducible refine (spec_InverseMotion.calls k t295 t296 _ _ t297 t300 t301 t302 t303 t304 t305 t306 _ ?side1 ?side2 A12.out).mono ?_
         (case side1 => repeat (first | exact (Kd.R_reads' HO299.out).2.2 | (with_reducible refine Kd.C_alloc ?_ _) | (with_reducible refine Kd.C_drewN ?_ _) | (with_reducible refine Kd.C_drew ?_)))
         (case side2 => exact (Kd.R_reads' HO299.out).2.1)
         rintro e w27 ⟨rfl, hb⟩
         refine ⟨_, rfl, ?_⟩
         have n0_ := mkA (Kd.R_below (by (with_reducible repeat (first | apply Kd.R_alloc | apply Kd.R_drewN | apply Kd.R_drew)); exact HO299.out) hb)
         have n1_ := mkA (blk_below (g := gb292) (o := .cells #[.int .i64 a0_0, .int .i64 a0_1, .slice A0_2 l0_2.length c0_2] 24 (0, 0)) (bl_ BK292.out) hb)
         have n2_ := mkA (blk_below (g := gb293) (o := .cells #[.int .i64 a1_0, .int .i64 a1_1, .int .i64 a1_2] 26 (0, 0)) (bl_ BK293.out) hb)
         have n3_ := mkA (blk_below (g := gb307) (o := .cells #[.int .i64 0, .int .i64 0, .int .i64 0] 31 (0, 0)) (bl_ BK307.out) hb)
         have n4_ := mkA (below_step (bs3_ HB.out GE292.out GE293.out GE307.out) hb)
         clear HO299
         clear BK292
         clear BK293
         clear BK307
         clear HB
         have HO299 := n0_
         have BK292 := n1_
         have BK293 := n2_
         have BK307 := n3_
         have HB := n4_
         clear n0_ n1_ n2_ n3_ n4_
         (try clear hb)
         (try clear hb2)
         (try clear hk)
         (try clear hi)
         refine hK.out _ _ ⟨(blk_cell BK292.out 0).trans rfl, (blk_cell BK292.out 1).trans rfl, (blk_cell BK292.out 2).trans rfl, (blk_cell BK293.out 0).trans rfl, (blk_cell BK293.out 1).trans rfl, (blk_cell BK293.out 2).trans rfl⟩ (fun hHeld => ?_)
         clear hK K
         refine norm_ (a' := ?_) ?_ ?_
         rotate_left
         · show Act.put _ (some 21) _ = _
           simp only [Act.put, sA, sB, sC, i64_w, i32_w]
           rfl
         refine p1_ HT_.out 5 16 laws_FnExactInverseMotion.d14 ?_
         refine p1_ HT_.out 6 22 laws_FnExactInverseMotion.d15 ?_
         refine p1_ HT_.out 7 23 laws_FnExactInverseMotion.d3 ?_
         exact norm_ (by simp only [putAll, Act.put, sA, sB, sC]) (hCont (.slice Ao26 t297.length co26, gb307) _ ⟨hHeld, (by (with_reducible repeat (first | apply Kd.R_alloc | apply Kd.R_drewN | apply Kd.R_drew)); exact HO299.out), (bl_ BK292.out), (bl_ BK293.out), (bl_ BK307.out), GW307.out, GE307.out, NB292_307.out, NB307_292.out, NB293_307.out, NB307_293.out, (bs3_ HB.out GE292.out GE293.out GE307.out)⟩)
     · skip
       refine box_step ?hg (N := 6) ?hd (cs := #[.int .i64 0, .int .i64 0, .int .i64 0]) (t := 31) ?hr ?_; (case hd => rfl); (case hg => rfl); (case hr => first | (go_simp; done) | (go_simp; rfl))
       intro gb307 hg w23 hbox hb
       have n0_ := mkA (blk_below (g := gb292) (o := .cells #[.int .i64 a0_0, .int .i64 a0_1, .slice A0_2 l0_2.length c0_2] 24 (0, 0)) (bl_ BK292.out) hb)
       have n1_ := mkA (blk_below (g := gb293) (o := .cells #[.int .i64 a1_0, .int .i64 a1_1, .int .i64 a1_2] 26 (0, 0)) (bl_ BK293.out) hb)
       have n2_ := mkA (below_step (bs2_ HB.out GE292.out GE293.out) hb)
       have n3_ := mkA (hbox)
       have n4_ := mkA ((by rw [hg]; exact (below_size (bs2_ HB.out GE292.out GE293.out)) : w.heap.size ≤ gb307))
       have n5_ := mkA ((by rw [hg]; exact (below_size (bs2_ HB.out GE292.out GE293.out)) : w.heap.size ≤ gb307))
       have n6_ := mkA ((by rw [hg]; exact Nat.ne_of_lt (blk_lt (g := gb292) (o := .cells #[.int .i64 a0_0, .int .i64 a0_1, .slice A0_2 l0_2.length c0_2] 24 (0, 0)) (bl_ BK292.out)) : gb292 ≠ gb307))
       have n7_ := mkA ((by rw [hg]; exact Nat.ne_of_gt (blk_lt (g := gb292) (o := .cells #[.int .i64 a0_0, .int .i64 a0_1, .slice A0_2 l0_2.length c0_2] 24 (0, 0)) (bl_ BK292.out)) : gb307 ≠ gb292))
       have n8_ := mkA ((by rw [hg]; exact Nat.ne_of_lt (blk_lt (g := gb293) (o := .cells #[.int .i64 a1_0, .int .i64 a1_1, .int .i64 a1_2] 26 (0, 0)) (bl_ BK293.out)) : gb293 ≠ gb307))
       have n9_ := mkA ((by rw [hg]; exact Nat.ne_of_gt (blk_lt (g := gb293) (o := .cells #[.int .i64 a1_0, .int .i64 a1_1, .int .i64 a1_2] 26 (0, 0)) (bl_ BK293.out)) : gb307 ≠ gb293))
       clear BK292
       clear BK293
       clear HB
       have BK292 := n0_
       have BK293 := n1_
       have HB := n2_
       have BK307 := n3_
       have GW307 := n4_
       have GE307 := n5_
       have NB292_307 := n6_
       have NB307_292 := n7_
       have NB293_307 := n8_
       have NB307_293 := n9_
       clear n0_ n1_ n2_ n3_ n4_ n5_ n6_ n7_ n8_ n9_
       clear hb hbox hg
       refine hK.out _ _ ⟨(blk_cell BK292.out 0).trans rfl, (blk_cell BK292.out 1).trans rfl, (blk_cell BK292.out 2).trans rfl, (blk_cell BK293.out 0).trans rfl, (blk_cell BK293.out 1).trans rfl, (blk_cell BK293.out 2).trans rfl⟩ (fun hHeld => ?_)
       clear hK K
       refine norm_ (a' := ?_) ?_ ?_
       rotate_left
       · show Act.put _ (some 6) _ = _
         simp only [Act.put, sA, sB, sC, i64_w, i32_w]
         rfl
       refine one_ (i := 1) (N := some 18) laws_FnExactInverseMotion.d7 rfl rfl (one_of HT_.out (by kernel_rfl)) (by decide) (fun K hK => ?_)
       refine goes_ Try.func17 (by kernel_rfl) rfl #[.agg #[.int .i64 a0_0, .int .i64 a0_1, .slice A0_2 l0_2.length c0_2]] (by rfl) rfl rfl (by (try simp only [List.map_toArray, List.map_cons, List.map_nil]); first | done | rfl | (simp only [List.length_drop, List.length_take]; rfl)) ?_
       with_reducible refine (laws_toTiling.calls k a0_0 a0_1 _ _ l0_2 t295 t296 t297 _ ?side1 ?side2 A10.out).mono ?_
       (case side1 => exact cb_ HR0_2.out HB.out)
       (case side2 => exact HC0_2.out)
       rintro e w24 ⟨v298, rfl, ho0, hb⟩
       refine ⟨_, rfl, ?_⟩
       have n0_ := mkA (Kd.R_lower ho0 (below_size (bs3_ HB.out GE292.out GE293.out GE307.out)))
       have n1_ := mkA (blk_below (g := gb292) (o := .cells #[.int .i64 a0_0, .int .i64 a0_1, .slice A0_2 l0_2.length c0_2] 24 (0, 0)) (bl_ BK292.out) hb)
       have n2_ := mkA (blk_below (g := gb293) (o := .cells #[.int .i64 a1_0, .int .i64 a1_1, .int .i64 a1_2] 26 (0, 0)) (bl_ BK293.out) hb)
       have n3_ := mkA (blk_below (g := gb307) (o := .cells #[.int .i64 0, .int .i64 0, .int .i64 0] 31 (0, 0)) (bl_ BK307.out) hb)
       have n4_ := mkA (below_step (bs3_ HB.out GE292.out GE293.out GE307.out) hb)
       clear BK292
       clear BK293
       clear BK307
       clear HB
       have HO299 := n0_
       have BK292 := n1_
       have BK293 := n2_
       have BK307 := n3_
       have HB := n4_
       clear n0_ n1_ n2_ n3_ n4_
       (try clear hb)
       (try clear hb2)
       (try clear hk)
       (try clear hi)
       (try clear ho0)
       refine hK.out _ _ ⟨(blk_cell BK292.out 0).trans rfl, (blk_cell BK292.out 1).trans rfl, (blk_cell BK292.out 2).trans rfl, (blk_cell BK293.out 0).trans rfl, (blk_cell BK293.out 1).trans rfl, (blk_cell BK293.out 2).trans rfl⟩ (fun hHeld => ?_)
       clear hK K
       refine norm_ (a' := ?_) ?_ ?_
       rotate_left
       · show Act.put _ (some 18) _ = _
         simp only [Act.put, sA, sB, sC, i64_w, i32_w]
         rfl
       refine one_ (i := 3) (N := some 20) laws_FnExactInverseMotion.d9 rfl rfl (one_of HT_.out (by kernel_rfl)) (by decide) (fun K hK => ?_)
       refine goes_ Try.func18 (by kernel_rfl) rfl #[.agg #[.int .i64 a1_0, .int .i64 a1_1, .int .i64 a1_2]] (by rfl) rfl rfl (by (try simp only [List.map_toArray, List.map_cons, List.map_nil]); first | done | rfl | (simp only [List.length_drop, List.length_take]; rfl)) ?_
       with_reducible refine (laws_toMotion.calls a1_0 a1_1 a1_2 t300 t301 t302 _ A11.out).mono ?_
       rintro e w25 ⟨rfl, hb⟩
       refine ⟨_, rfl, ?_⟩
       have n0_ := mkA (Kd.R_below (by (with_reducible repeat (first | apply Kd.R_alloc | apply Kd.R_drewN | apply Kd.R_drew)); exact HO299.out) hb)
       have n1_ := mkA (blk_below (g := gb292) (o := .cells #[.int .i64 a0_0, .int .i64 a0_1, .slice A0_2 l0_2.length c0_2] 24 (0, 0)) (bl_ BK292.out) hb)
       have n2_ := mkA (blk_below (g := gb293) (o := .cells #[.int .i64 a1_0, .int .i64 a1_1, .int .i64 a1_2] 26 (0, 0)) (bl_ BK293.out) hb)
       have n3_ := mkA (blk_below (g := gb307) (o := .cells #[.int .i64 0, .int .i64 0, .int .i64 0] 31 (0, 0)) (bl_ BK307.out) hb)
       have n4_ := mkA (below_step (bs3_ HB.out GE292.out GE293.out GE307.out) hb)
       clear HO299
       clear BK292
       clear BK293
       clear BK307
       clear HB
       have HO299 := n0_
       have BK292 := n1_
       have BK293 := n2_
       have BK307 := n3_
       have HB := n4_
       clear n0_ n1_ n2_ n3_ n4_
       (try clear hb)
       (try clear hb2)
       (try clear hk)
       (try clear hi)
       obtain ⟨Ao26, co26, eo26⟩ := Kd.R_slice HO299.out
       (first | subst eo26 | (injection eo26 with f1_ f2_ f3_; have f4_ := f1_.symm; have f5_ := f3_.symm; clear f1_ f2_ f3_; subst f4_; subst f5_))
       refine hK.out _ _ ⟨(blk_cell BK292.out 0).trans rfl, (blk_cell BK292.out 1).trans rfl, (blk_cell BK292.out 2).trans rfl, (blk_cell BK293.out 0).trans rfl, (blk_cell BK293.out 1).trans rfl, (blk_cell BK293.out 2).trans rfl⟩ (fun hHeld => ?_)
       clear hK K
       refine norm_ (a' := ?_) ?_ ?_
       rotate_left
       · show Act.put _ (some 20) _ = _
         simp only [Act.put, sA, sB, sC, i64_w, i32_w]
         rfl
       refine one_ (i := 4) (N := some 21) laws_FnExactInverseMotion.d13 rfl rfl (one_of HT_.out (by kernel_rfl)) (by decide) (fun K hK => ?_)
       refine goes_ Try.func32 (by kernel_rfl) rfl #[.agg #[.int .i64 t295, .int .i64 t296, .slice Ao26 t297.length co26], .agg #[.int .i64 t300, .int .i64 t301, .int .i64 t302]] (by rfl) rfl rfl (by (try simp only [List.map_toArray, List.map_cons, List.map_nil]); first | done | rfl | (simp only [List.length_drop, List.length_take]; rfl)) ?_
       with_reducible refine (spec_InverseMotion.calls k t295 t296 _ _ t297 t300 t301 t302 t303 t304 t305 t306 _ ?side1 ?side2 A12.out).mono ?_
       (case side1 => repeat (first | exact (Kd.R_reads' HO299.out).2.2 | (with_reducible refine Kd.C_alloc ?_ _) | (with_reducible refine Kd.C_drewN ?_ _) | (with_reducible refine Kd.C_drew ?_)))
       (case side2 => exact (Kd.R_reads' HO299.out).2.1)
       rintro e w27 ⟨rfl, hb⟩
       refine ⟨_, rfl, ?_⟩
       have n0_ := mkA (Kd.R_below (by (with_reducible repeat (first | apply Kd.R_alloc | apply Kd.R_drewN | apply Kd.R_drew)); exact HO299.out) hb)
       have n1_ := mkA (blk_below (g := gb292) (o := .cells #[.int .i64 a0_0, .int .i64 a0_1, .slice A0_2 l0_2.length c0_2] 24 (0, 0)) (bl_ BK292.out) hb)
       have n2_ := mkA (blk_below (g := gb293) (o := .cells #[.int .i64 a1_0, .int .i64 a1_1, .int .i64 a1_2] 26 (0, 0)) (bl_ BK293.out) hb)
       have n3_ := mkA (blk_below (g := gb307) (o := .cells #[.int .i64 0, .int .i64 0, .int .i64 0] 31 (0, 0)) (bl_ BK307.out) hb)
       have n4_ := mkA (below_step (bs3_ HB.out GE292.out GE293.out GE307.out) hb)
       clear HO299
       clear BK292
       clear BK293
       clear BK307
       clear HB
       have HO299 := n0_
       have BK292 := n1_
       have BK293 := n2_
       have BK307 := n3_
       have HB := n4_
       clear n0_ n1_ n2_ n3_ n4_
       (try clear hb)
       (try clear hb2)
       (try clear hk)
       (try clear hi)
       refine hK.out _ _ ⟨(blk_cell BK292.out 0).trans rfl, (blk_cell BK292.out 1).trans rfl, (blk_cell BK292.out 2).trans rfl, (blk_cell BK293.out 0).trans rfl, (blk_cell BK293.out 1).trans rfl, (blk_cell BK293.out 2).trans rfl⟩ (fun hHeld => ?_)
       clear hK K
       refine norm_ (a' := ?_) ?_ ?_
       rotate_left
       · show Act.put _ (some 21) _ = _
         simp only [Act.put, sA, sB, sC, i64_w, i32_w]
         rfl
       refine p1_ HT_.out 5 16 laws_FnExactInverseMotion.d14 ?_
       refine p1_ HT_.out 6 22 laws_FnExactInverseMotion.d15 ?_
       refine p1_ HT_.out 7 23 laws_FnExactInverseMotion.d3 ?_
       exact norm_ (by simp only [putAll, Act.put, sA, sB, sC]) (hCont (.slice Ao26 t297.length co26, gb307) _ ⟨hHeld, (by (with_reducible repeat (first | apply Kd.R_alloc | apply Kd.R_drewN | apply Kd.R_drew)); exact HO299.out), (bl_ BK292.out), (bl_ BK293.out), (bl_ BK307.out), GW307.out, GE307.out, NB292_307.out, NB307_292.out, NB293_307.out, NB307_293.out, (bs3_ HB.out GE292.out GE293.out GE307.out)⟩)
   rintro ⟨v298, gb307⟩ w28 ⟨hS_, h0_, h1_, h2_, h3_, h4_, h5_, h6_, h7_, h8_, h9_, h10_⟩
   have n0_ : Aside0 (Kd.R (Kd.int .i64) 2 w28 w.heap.size (fun _ => True) v298 t297) := ⟨h0_⟩
   have n1_ : Aside0 (w28.heap[gb292]? = some (.cells #[.int .i64 a0_0, .int .i64 a0_1, .slice A0_2 l0_2.length c0_2] 24 (0, 0))) := ⟨h1_⟩
   have n2_ : Aside0 (w28.heap[gb293]? = some (.cells #[.int .i64 a1_0, .int .i64 a1_1, .int .i64 a1_2] 26 (0, 0))) := ⟨h2_⟩
   have n3_ : Aside0 (w28.heap[gb307]? = some (.cells #[.int .i64 0, .int .i64 0, .int .i64 0] 31 (0, 0))) := ⟨h3_⟩
   have n4_ : Aside0 (w.heap.size ≤ gb307) := ⟨h4_⟩
   have n5_ : Aside0 (w.heap.size ≤ gb307) := ⟨h5_⟩
   have n6_ : Aside0 (gb292 ≠ gb307) := ⟨h6_⟩
   have n7_ : Aside0 (gb307 ≠ gb292) := ⟨h7_⟩
   have n8_ : Aside0 (gb293 ≠ gb307) := ⟨h8_⟩
   have n9_ : Aside0 (gb307 ≠ gb293) := ⟨h9_⟩
   have n10_ : Aside0 (Below w.heap.size w w28) := ⟨h10_⟩
   clear BK292
   clear BK293
   clear HB
   clear h0_ h1_ h2_ h3_ h4_ h5_ h6_ h7_ h8_ h9_ h10_
   have HO299 := n0_
   have BK292 := n1_
   have BK293 := n2_
   have BK307 := n3_
   have GW307 := n4_
   have GE307 := n5_
   have NB292_307 := n6_
   have NB307_292 := n7_
   have NB293_307 := n8_
   have NB307_293 := n9_
   have HB := n10_
   clear n0_ n1_ n2_ n3_ n4_ n5_ n6_ n7_ n8_ n9_ n10_
   have hHeld : w28.cell? ⟨gb292, 0, none⟩ = some (.int .i64 a0_0) ∧ w28.cell? ⟨gb292, 1, none⟩ = some (.int .i64 a0_1) ∧ w28.cell? ⟨gb292, 2, none⟩ = some (.slice A0_2 l0_2.length c0_2) ∧ w28.cell? ⟨gb293, 0, none⟩ = some (.int .i64 a1_0) ∧ w28.cell? ⟨gb293, 1, none⟩ = some (.int .i64 a1_1) ∧ w28.cell? ⟨gb293, 2, none⟩ = some (.int .i64 a1_2) := hS_
   refine norm_ (a' := ?_) ?_ ?_
   rotate_left
   · simp only [putAll, Act.put, sA, sB, sC]
     rfl
   refine one_ (i := 9) (N := none) laws_FnExactInverseMotion.d16 rfl rfl (one_of HT_.out (by kernel_rfl)) (by decide) (fun K hK => ?_)
   have hs29 : w28.cell? ⟨gb307, 0, none⟩ = some (.int .i64 0) := (blk_cell BK307.out 0).trans rfl
   have hfs29 := blk_frozen BK307.out 0
   have hns29_0 := NB292_307.out
   have hns29_1 := NB293_307.out
   have hms29_0 := NB307_292.out
   have hms29_1 := NB307_293.out
   have hs30 : w28.cell? ⟨gb307, 1, none⟩ = some (.int .i64 0) := (blk_cell BK307.out 1).trans rfl
   have hfs30 := blk_frozen BK307.out 1
   have hns30_0 := NB292_307.out
   have hns30_1 := NB293_307.out
   have hms30_0 := NB307_292.out
   have hms30_1 := NB307_293.out
   have hs31 : w28.cell? ⟨gb307, 2, none⟩ = some (.int .i64 0) := (blk_cell BK307.out 2).trans rfl
   have hfs31 := blk_frozen BK307.out 2
   have hns31_0 := NB292_307.out
   have hns31_1 := NB293_307.out
   have hms31_0 := NB307_292.out
   have hms31_1 := NB307_293.out
   refine skip_ (w1 := ?_) (by rfl) rfl ?_ ?_
   rotate_left
   · go_simp
     rfl
   refine hK.out _ _ ⟨((cell_far (p := ⟨gb307, _, none⟩) NB292_307.out _).trans (((cell_far (p := ⟨gb307, _, none⟩) NB292_307.out _).trans (((cell_far (p := ⟨gb307, _, none⟩) NB292_307.out _).trans (hHeld.1)))))), ((cell_far (p := ⟨gb307, _, none⟩) NB292_307.out _).trans (((cell_far (p := ⟨gb307, _, none⟩) NB292_307.out _).trans (((cell_far (p := ⟨gb307, _, none⟩) NB292_307.out _).trans (hHeld.2.1)))))), ((cell_far (p := ⟨gb307, _, none⟩) NB292_307.out _).trans (((cell_far (p := ⟨gb307, _, none⟩) NB292_307.out _).trans (((cell_far (p := ⟨gb307, _, none⟩) NB292_307.out _).trans (hHeld.2.2.1)))))), ((cell_far (p := ⟨gb307, _, none⟩) NB293_307.out _).trans (((cell_far (p := ⟨gb307, _, none⟩) NB293_307.out _).trans (((cell_far (p := ⟨gb307, _, none⟩) NB293_307.out _).trans (hHeld.2.2.2.1)))))), ((cell_far (p := ⟨gb307, _, none⟩) NB293_307.out _).trans (((cell_far (p := ⟨gb307, _, none⟩) NB293_307.out _).trans (((cell_far (p := ⟨gb307, _, none⟩) NB293_307.out _).trans (hHeld.2.2.2.2.1)))))), ((cell_far (p := ⟨gb307, _, none⟩) NB293_307.out _).trans (((cell_far (p := ⟨gb307, _, none⟩) NB293_307.out _).trans (((cell_far (p := ⟨gb307, _, none⟩) NB293_307.out _).trans (hHeld.2.2.2.2.2))))))⟩ (fun hHeld => ?_)
   clear hK K
   refine p1_ HT_.out 10 7 laws_FnExactInverseMotion.d17 ?_
   refine done_ (done_of HT_.out (by kernel_rfl)) ?_
   have hnb32 := NB292_307.out
   have hnc32 := NB307_292.out
   have hcz33_0 : w28.cell? ⟨gb292, 0, none⟩ = some (.int .i64 a0_0) := (blk_cell BK292.out 0).trans rfl
   have hcz33_1 : w28.cell? ⟨gb292, 1, none⟩ = some (.int .i64 a0_1) := (blk_cell BK292.out 1).trans rfl
   have hcz33_2 : w28.cell? ⟨gb292, 2, none⟩ = some (.slice A0_2 l0_2.length c0_2) := (blk_cell BK292.out 2).trans rfl
   have hfz33_0 := blk_frozen BK292.out 0
   have hfz33_1 := blk_frozen BK292.out 1
   have hfz33_2 := blk_frozen BK292.out 2
   try go_wp2_with (first | ((with_reducible refine gate_callee (f := 17) rfl ?_); refine goesL_ (some 25) rfl rfl Try.func17 (by kernel_rfl) rfl #[.agg #[.int .i64 a0_0, .int .i64 a0_1, .slice A0_2 l0_2.length c0_2]] rfl (by (try simp only [List.map_toArray, List.map_cons, List.map_nil]); first | done | rfl | (simp only [List.length_drop, List.length_take]; rfl)) ?_; (with_reducible refine (laws_toTiling.calls k a0_0 a0_1 _ _ l0_2 t308 t309 t310 _ ?side1 ?side2 A13.out).mono ?_); (case side1 => exact Kd.C_below HR0_2.out (bs3_ HB.out GE292.out GE293.out GE307.out)); (case side2 => exact HC0_2.out); rintro e w34 ⟨v311, rfl, ho0, hb⟩; refine ⟨_, rfl, ?_⟩; have n0_ := mkA (Kd.R_elder' (by (with_reducible repeat (first | apply Kd.R_alloc | apply Kd.R_drewN | apply Kd.R_drew)); exact (Kd.R_mono (Kd.R_far (p := ⟨gb307, 2, none⟩) (Kd.R_far (p := ⟨gb307, 1, none⟩) (Kd.R_far (p := ⟨gb307, 0, none⟩) (Kd.R_types HO299.out BK307.out (by decide)) (fun _ hk => hk.2) (.int .i64 t303)) (fun _ hk => hk.2) (.int .i64 t304)) (fun _ hk => hk.2) (.int .i64 t305)) (fun _ h_ => h_.1))) (Kd.R_base ho0) hb); have n1_ := mkA (Kd.R_lower (Kd.R_new' ho0 (Kd.R_lt (by (with_reducible repeat (first | apply Kd.R_alloc | apply Kd.R_drewN | apply Kd.R_drew)); exact (Kd.R_mono (Kd.R_far (p := ⟨gb307, 2, none⟩) (Kd.R_far (p := ⟨gb307, 1, none⟩) (Kd.R_far (p := ⟨gb307, 0, none⟩) (Kd.R_types HO299.out BK307.out (by decide)) (fun _ hk => hk.2) (.int .i64 t303)) (fun _ hk => hk.2) (.int .i64 t304)) (fun _ hk => hk.2) (.int .i64 t305)) (fun _ h_ => h_.1))))) (below_size (bs3_ HB.out GE292.out GE293.out GE307.out))); have n2_ := mkA (blk_below (g := gb292) (o := .cells #[.int .i64 a0_0, .int .i64 a0_1, .slice A0_2 l0_2.length c0_2] 24 (0, 0)) (by (with_reducible repeat (first | refine blk_drewN ?_ _ | refine blk_drew ?_ | refine blk_alloc ?_ _)); refine blk_far ?_ NB292_307.out _; (with_reducible repeat (first | refine blk_drewN ?_ _ | refine blk_drew ?_ | refine blk_alloc ?_ _)); refine blk_far ?_ NB292_307.out _; (with_reducible repeat (first | refine blk_drewN ?_ _ | refine blk_drew ?_ | refine blk_alloc ?_ _)); refine blk_far ?_ NB292_307.out _; (with_reducible repeat (first | refine blk_drewN ?_ _ | refine blk_drew ?_ | refine blk_alloc ?_ _)); exact BK292.out) hb); have n3_ := mkA (blk_below (g := gb293) (o := .cells #[.int .i64 a1_0, .int .i64 a1_1, .int .i64 a1_2] 26 (0, 0)) (by (with_reducible repeat (first | refine blk_drewN ?_ _ | refine blk_drew ?_ | refine blk_alloc ?_ _)); refine blk_far ?_ NB293_307.out _; (with_reducible repeat (first | refine blk_drewN ?_ _ | refine blk_drew ?_ | refine blk_alloc ?_ _)); refine blk_far ?_ NB293_307.out _; (with_reducible repeat (first | refine blk_drewN ?_ _ | refine blk_drew ?_ | refine blk_alloc ?_ _)); refine blk_far ?_ NB293_307.out _; (with_reducible repeat (first | refine blk_drewN ?_ _ | refine blk_drew ?_ | refine blk_alloc ?_ _)); exact BK293.out) hb); have n4_ := mkA (blk_below (g := gb307) (o := .cells #[.int .i64 t303, .int .i64 t304, .int .i64 t305] 31 (0, 0)) (by (with_reducible repeat (first | refine blk_drewN ?_ _ | refine blk_drew ?_ | refine blk_alloc ?_ _)); refine blk_put (cs := #[.int .i64 t303, .int .i64 t304, .int .i64 0]) ?_ 2 _ rfl; (with_reducible repeat (first | refine blk_drewN ?_ _ | refine blk_drew ?_ | refine blk_alloc ?_ _)); refine blk_put (cs := #[.int .i64 t303, .int .i64 0, .int .i64 0]) ?_ 1 _ rfl; (with_reducible repeat (first | refine blk_drewN ?_ _ | refine blk_drew ?_ | refine blk_alloc ?_ _)); refine blk_put (cs := #[.int .i64 0, .int .i64 0, .int .i64 0]) ?_ 0 _ rfl; (with_reducible repeat (first | refine blk_drewN ?_ _ | refine blk_drew ?_ | refine blk_alloc ?_ _)); exact BK307.out) hb); have n5_ := mkA (below_step (bs3_ HB.out GE292.out GE293.out GE307.out) hb); clear HO299; clear BK292; clear BK293; clear BK307; clear HB; have HO299 := n0_; have HO312 := n1_; have BK292 := n2_; have BK293 := n3_; have BK307 := n4_; have HB := n5_; clear n0_ n1_ n2_ n3_ n4_ n5_; (try clear hb); (try clear hb2); (try clear hk); (try clear hi); (try clear ho0)) | ((with_reducible refine gate_dst (N := 8) rfl ?_); refine box_event ?hg (N := 8) ?hd (cs := #[.int .i64 0, .int .i64 0, .slice none 0 0]) (t := 29) ?hr ?_; (case hd => rfl); (case hg => rfl); (case hr => first | (go_simp; done) | (go_simp; rfl)); intro gb313 hg w35 hbox hb; have n0_ := mkA (Kd.R_below (by (with_reducible repeat (first | apply Kd.R_alloc | apply Kd.R_drewN | apply Kd.R_drew)); exact HO299.out) hb); have n1_ := mkA (Kd.R_below (by (with_reducible repeat (first | apply Kd.R_alloc | apply Kd.R_drewN | apply Kd.R_drew)); exact HO312.out) hb); have n2_ := mkA (blk_below (g := gb292) (o := .cells #[.int .i64 a0_0, .int .i64 a0_1, .slice A0_2 l0_2.length c0_2] 24 (0, 0)) (bl_ BK292.out) hb); have n3_ := mkA (blk_below (g := gb293) (o := .cells #[.int .i64 a1_0, .int .i64 a1_1, .int .i64 a1_2] 26 (0, 0)) (bl_ BK293.out) hb); have n4_ := mkA (blk_below (g := gb307) (o := .cells #[.int .i64 t303, .int .i64 t304, .int .i64 t305] 31 (0, 0)) (bl_ BK307.out) hb); have n5_ := mkA (below_step (bs3_ HB.out GE292.out GE293.out GE307.out) hb); have n6_ := mkA (hbox); have n7_ := mkA ((by rw [hg]; exact (below_size (bs3_ HB.out GE292.out GE293.out GE307.out)) : w.heap.size ≤ gb313)); have n8_ := mkA ((by rw [hg]; exact (below_size (bs3_ HB.out GE292.out GE293.out GE307.out)) : w.heap.size ≤ gb313)); have n9_ := mkA ((by rw [hg]; exact Nat.ne_of_lt (blk_lt (g := gb292) (o := .cells #[.int .i64 a0_0, .int .i64 a0_1, .slice A0_2 l0_2.length c0_2] 24 (0, 0)) (bl_ BK292.out)) : gb292 ≠ gb313)); have n10_ := mkA ((by rw [hg]; exact Nat.ne_of_gt (blk_lt (g := gb292) (o := .cells #[.int .i64 a0_0, .int .i64 a0_1, .slice A0_2 l0_2.length c0_2] 24 (0, 0)) (bl_ BK292.out)) : gb313 ≠ gb292)); have n11_ := mkA ((by rw [hg]; exact Nat.ne_of_lt (blk_lt (g := gb293) (o := .cells #[.int .i64 a1_0, .int .i64 a1_1, .int .i64 a1_2] 26 (0, 0)) (bl_ BK293.out)) : gb293 ≠ gb313)); have n12_ := mkA ((by rw [hg]; exact Nat.ne_of_gt (blk_lt (g := gb293) (o := .cells #[.int .i64 a1_0, .int .i64 a1_1, .int .i64 a1_2] 26 (0, 0)) (bl_ BK293.out)) : gb313 ≠ gb293)); have n13_ := mkA ((by rw [hg]; exact Nat.ne_of_lt (blk_lt (g := gb307) (o := .cells #[.int .i64 t303, .int .i64 t304, .int .i64 t305] 31 (0, 0)) (bl_ BK307.out)) : gb307 ≠ gb313)); have n14_ := mkA ((by rw [hg]; exact Nat.ne_of_gt (blk_lt (g := gb307) (o := .cells #[.int .i64 t303, .int .i64 t304, .int .i64 t305] 31 (0, 0)) (bl_ BK307.out)) : gb313 ≠ gb307)); clear HO299; clear HO312; clear BK292; clear BK293; clear BK307; clear HB; have HO299 := n0_; have HO312 := n1_; have BK292 := n2_; have BK293 := n3_; have BK307 := n4_; have HB := n5_; have BK313 := n6_; have GW313 := n7_; have GE313 := n8_; have NB292_313 := n9_; have NB313_292 := n10_; have NB293_313 := n11_; have NB313_293 := n12_; have NB307_313 := n13_; have NB313_307 := n14_; clear n0_ n1_ n2_ n3_ n4_ n5_ n6_ n7_ n8_ n9_ n10_ n11_ n12_ n13_ n14_; clear hb hbox hg; have hnb36 := NB313_292.out; have hnc36 := NB292_313.out; have hnb37 := NB313_293.out; have hnc37 := NB293_313.out; have hnb38 := NB313_307.out; have hnc38 := NB307_313.out; have hcz39_0 : w35.cell? ⟨gb313, 0, none⟩ = some (.int .i64 0) := (blk_cell BK313.out 0).trans rfl; have hcz39_1 : w35.cell? ⟨gb313, 1, none⟩ = some (.int .i64 0) := (blk_cell BK313.out 1).trans rfl; have hcz39_2 : w35.cell? ⟨gb313, 2, none⟩ = some (.slice none 0 0) := (blk_cell BK313.out 2).trans rfl; have hfz39_0 := blk_frozen BK313.out 0; have hfz39_1 := blk_frozen BK313.out 1; have hfz39_2 := blk_frozen BK313.out 2; obtain ⟨Ao40, co40, eo40⟩ := Kd.R_slice HO312.out; subst eo40))
   have n0_ : Aside0 (Kd.R (Kd.int .i64) 2 (((w35.setCell ⟨gb313, 0, none⟩ (.int .i64 t308)).setCell ⟨gb313, 1, none⟩ (.int .i64 t309)).setCell ⟨gb313, 2, none⟩ (.slice Ao40 t310.length co40)) w.heap.size (fun k_ => some k_ ≠ (.slice Ao40 t310.length co40 : Value).ownBlock) v298 t297) := ⟨by (with_reducible repeat (first | apply Kd.R_alloc | apply Kd.R_drewN | apply Kd.R_drew)); exact Kd.R_mono (Kd.R_far (p := ⟨gb313, 2, none⟩) (Kd.R_far (p := ⟨gb313, 1, none⟩) (Kd.R_far (p := ⟨gb313, 0, none⟩) (Kd.R_types HO299.out BK313.out (by decide)) (fun _ hk => hk.2) (.int .i64 t308)) (fun _ hk => hk.2) (.int .i64 t309)) (fun _ hk => hk.2) (.slice Ao40 t310.length co40)) (fun _ hk => hk.1.2)⟩
   have n1_ : Aside0 (Kd.R (Kd.int .i64) 2 (((w35.setCell ⟨gb313, 0, none⟩ (.int .i64 t308)).setCell ⟨gb313, 1, none⟩ (.int .i64 t309)).setCell ⟨gb313, 2, none⟩ (.slice Ao40 t310.length co40)) w.heap.size (fun k_ => some k_ ≠ (v298 : Value).ownBlock) (.slice Ao40 t310.length co40) t310) := ⟨by (with_reducible repeat (first | apply Kd.R_alloc | apply Kd.R_drewN | apply Kd.R_drew)); exact Kd.R_mono (Kd.R_far (p := ⟨gb313, 2, none⟩) (Kd.R_far (p := ⟨gb313, 1, none⟩) (Kd.R_far (p := ⟨gb313, 0, none⟩) (Kd.R_types HO312.out BK313.out (by decide)) (fun _ hk => hk.2) (.int .i64 t308)) (fun _ hk => hk.2) (.int .i64 t309)) (fun _ hk => hk.2) (.slice Ao40 t310.length co40)) (fun _ hk => hk.1.2)⟩
   have n2_ : Aside0 ((((w35.setCell ⟨gb313, 0, none⟩ (.int .i64 t308)).setCell ⟨gb313, 1, none⟩ (.int .i64 t309)).setCell ⟨gb313, 2, none⟩ (.slice Ao40 t310.length co40)).heap[gb292]? = some (.cells #[.int .i64 a0_0, .int .i64 a0_1, .slice A0_2 l0_2.length c0_2] 24 (0, 0))) := ⟨by (with_reducible repeat (first | refine blk_drewN ?_ _ | refine blk_drew ?_ | refine blk_alloc ?_ _)); refine blk_far ?_ NB292_313.out _; (with_reducible repeat (first | refine blk_drewN ?_ _ | refine blk_drew ?_ | refine blk_alloc ?_ _)); refine blk_far ?_ NB292_313.out _; (with_reducible repeat (first | refine blk_drewN ?_ _ | refine blk_drew ?_ | refine blk_alloc ?_ _)); refine blk_far ?_ NB292_313.out _; (with_reducible repeat (first | refine blk_drewN ?_ _ | refine blk_drew ?_ | refine blk_alloc ?_ _)); exact BK292.out⟩
   have n3_ : Aside0 ((((w35.setCell ⟨gb313, 0, none⟩ (.int .i64 t308)).setCell ⟨gb313, 1, none⟩ (.int .i64 t309)).setCell ⟨gb313, 2, none⟩ (.slice Ao40 t310.length co40)).heap[gb293]? = some (.cells #[.int .i64 a1_0, .int .i64 a1_1, .int .i64 a1_2] 26 (0, 0))) := ⟨by (with_reducible repeat (first | refine blk_drewN ?_ _ | refine blk_drew ?_ | refine blk_alloc ?_ _)); refine blk_far ?_ NB293_313.out _; (with_reducible repeat (first | refine blk_drewN ?_ _ | refine blk_drew ?_ | refine blk_alloc ?_ _)); refine blk_far ?_ NB293_313.out _; (with_reducible repeat (first | refine blk_drewN ?_ _ | refine blk_drew ?_ | refine blk_alloc ?_ _)); refine blk_far ?_ NB293_313.out _; (with_reducible repeat (first | refine blk_drewN ?_ _ | refine blk_drew ?_ | refine blk_alloc ?_ _)); exact BK293.out⟩
   have n4_ : Aside0 ((((w35.setCell ⟨gb313, 0, none⟩ (.int .i64 t308)).setCell ⟨gb313, 1, none⟩ (.int .i64 t309)).setCell ⟨gb313, 2, none⟩ (.slice Ao40 t310.length co40)).heap[gb307]? = some (.cells #[.int .i64 t303, .int .i64 t304, .int .i64 t305] 31 (0, 0))) := ⟨by (with_reducible repeat (first | refine blk_drewN ?_ _ | refine blk_drew ?_ | refine blk_alloc ?_ _)); refine blk_far ?_ NB307_313.out _; (with_reducible repeat (first | refine blk_drewN ?_ _ | refine blk_drew ?_ | refine blk_alloc ?_ _)); refine blk_far ?_ NB307_313.out _; (with_reducible repeat (first | refine blk_drewN ?_ _ | refine blk_drew ?_ | refine blk_alloc ?_ _)); refine blk_far ?_ NB307_313.out _; (with_reducible repeat (first | refine blk_drewN ?_ _ | refine blk_drew ?_ | refine blk_alloc ?_ _)); exact BK307.out⟩
   have n5_ : Aside0 ((((w35.setCell ⟨gb313, 0, none⟩ (.int .i64 t308)).setCell ⟨gb313, 1, none⟩ (.int .i64 t309)).setCell ⟨gb313, 2, none⟩ (.slice Ao40 t310.length co40)).heap[gb313]? = some (.cells #[.int .i64 t308, .int .i64 t309, .slice Ao40 t310.length co40] 29 (0, 0))) := ⟨by (with_reducible repeat (first | refine blk_drewN ?_ _ | refine blk_drew ?_ | refine blk_alloc ?_ _)); refine blk_put (cs := #[.int .i64 t308, .int .i64 t309, .slice none 0 0]) ?_ 2 _ rfl; (with_reducible repeat (first | refine blk_drewN ?_ _ | refine blk_drew ?_ | refine blk_alloc ?_ _)); refine blk_put (cs := #[.int .i64 t308, .int .i64 0, .slice none 0 0]) ?_ 1 _ rfl; (with_reducible repeat (first | refine blk_drewN ?_ _ | refine blk_drew ?_ | refine blk_alloc ?_ _)); refine blk_put (cs := #[.int .i64 0, .int .i64 0, .slice none 0 0]) ?_ 0 _ rfl; (with_reducible repeat (first | refine blk_drewN ?_ _ | refine blk_drew ?_ | refine blk_alloc ?_ _)); exact BK313.out⟩
   have n6_ : Aside0 (Below w.heap.size w (((w35.setCell ⟨gb313, 0, none⟩ (.int .i64 t308)).setCell ⟨gb313, 1, none⟩ (.int .i64 t309)).setCell ⟨gb313, 2, none⟩ (.slice Ao40 t310.length co40))) := ⟨by repeat (first | (with_reducible first | exact HB.out | apply below_alloc | apply pw_below_drewN | apply below_drew1 | refine below_set ?_ GE292.out | refine below_set ?_ GE293.out | refine below_set ?_ GE307.out | refine below_set ?_ GE313.out) | exact HB.out)⟩
   (try clear HO299)
   (try clear HO312)
   (try clear BK292)
   (try clear BK293)
   (try clear BK307)
   (try clear BK313)
   (try clear HB)
   generalize (((w35.setCell ⟨gb313, 0, none⟩ (.int .i64 t308)).setCell ⟨gb313, 1, none⟩ (.int .i64 t309)).setCell ⟨gb313, 2, none⟩ (.slice Ao40 t310.length co40)) = w41 at n0_ n1_ n2_ n3_ n4_ n5_ n6_ ⊢
   have HO299 := n0_
   have HO312 := n1_
   have BK292 := n2_
   have BK293 := n3_
   have BK307 := n4_
   have BK313 := n5_
   have HB := n6_
   clear n0_ n1_ n2_ n3_ n4_ n5_ n6_
   have n0_ := mkA (Kd.R_drew HO299.out)
   have n1_ := mkA (Kd.R_drew HO312.out)
   have n2_ := mkA (blk_drew BK292.out)
   have n3_ := mkA (blk_drew BK293.out)
   have n4_ := mkA (blk_drew BK307.out)
   have n5_ := mkA (blk_drew BK313.out)
   have n6_ := mkA (below_drew1 HB.out)
   clear HO299
   clear HO312
   clear BK292
   clear BK293
   clear BK307
   clear BK313
   clear HB
   have HO299 := n0_
   have HO312 := n1_
   have BK292 := n2_
   have BK293 := n3_
   have BK307 := n4_
   have BK313 := n5_
   have HB := n6_
   clear n0_ n1_ n2_ n3_ n4_ n5_ n6_
   refine start_ (n := 10) (S := fun w' => w'.cell? ⟨gb313, 0, none⟩ = some (.int .i64 t308) ∧ w'.cell? ⟨gb313, 1, none⟩ = some (.int .i64 t309) ∧ w'.cell? ⟨gb313, 2, none⟩ = some (.slice Ao40 t310.length co40) ∧ w'.cell? ⟨gb293, 0, none⟩ = some (.int .i64 a1_0) ∧ w'.cell? ⟨gb293, 1, none⟩ = some (.int .i64 a1_1) ∧ w'.cell? ⟨gb293, 2, none⟩ = some (.int .i64 a1_2)) (ds := []) laws_FnExactInverseMotion.d18 (by kernel_rfl) rfl rfl ⟨(blk_cell BK313.out 0).trans rfl, (blk_cell BK313.out 1).trans rfl, (blk_cell BK313.out 2).trans rfl, (blk_cell BK293.out 0).trans rfl, (blk_cell BK293.out 1).trans rfl, (blk_cell BK293.out 2).trans rfl⟩ (fun hHeld => ?_); refine with_tabW laws_FnExactInverseMotion.tab7 laws_FnExactInverseMotion.bits7 (fun HT_ HW_ => ?_)
   generalize w41.drew = w42 at HO299 HO312 BK292 BK293 BK307 BK313 HB hHeld ⊢
   refine take_ (i := 0) (N := some 27) (v := ?_) (a' := ?_) laws_FnExactInverseMotion.d19 rfl rfl (take_ofW HT_.out HW_.out (by kernel_rfl)) (fun _ _ _ h => h) (Or.inl ⟨by rfl, ?_⟩) hHeld ?_ ?_
   rotate_left
   · rintro w' ⟨s0, s1, s2, s3, s4, s5⟩
     go_simp
     with_reducible rfl
   rotate_left
   · simp only [Act.put, sA, sB, sC, i64_w, i32_w]
     rfl
   refine take_ (i := 1) (N := some 28) (v := ?_) (a' := ?_) laws_FnExactInverseMotion.d20 rfl rfl (take_ofW HT_.out HW_.out (by kernel_rfl)) (fun _ _ _ h => h) (Or.inl ⟨by rfl, ?_⟩) hHeld ?_ ?_
   rotate_left
   · rintro w' ⟨s0, s1, s2, s3, s4, s5⟩
     go_simp
     with_reducible rfl
   rotate_left
   · simp only [Act.put, sA, sB, sC, i64_w, i32_w]
     rfl
   refine join_ (σ := Nat) 2 laws_FnExactInverseMotion.d21 (fun s_ => [(29, .agg #[.int .i64 t314, .int .i64 t315, .int .i64 t316]), (30, .tuple #[.agg #[.int .i64 t317, .int .i64 t318, .int .i64 t319], .int .i64 t320]), (9, .pointer (some ⟨s_, 0, none⟩)), (26, .tuple #[.agg #[.int .i64 t317, .int .i64 t318, .int .i64 t319], .int .i64 t320]), (31, .agg #[.int .i64 t317, .int .i64 t318, .int .i64 t319]), (32, .int .i64 t320)]) (fun s_ w' => (w'.cell? ⟨gb313, 0, none⟩ = some (.int .i64 t308) ∧ w'.cell? ⟨gb313, 1, none⟩ = some (.int .i64 t309) ∧ w'.cell? ⟨gb313, 2, none⟩ = some (.slice Ao40 t310.length co40) ∧ w'.cell? ⟨gb293, 0, none⟩ = some (.int .i64 a1_0) ∧ w'.cell? ⟨gb293, 1, none⟩ = some (.int .i64 a1_1) ∧ w'.cell? ⟨gb293, 2, none⟩ = some (.int .i64 a1_2)) ∧ (Kd.R (Kd.int .i64) 2 w' w.heap.size (fun k_ => some k_ ≠ (.slice Ao40 t310.length co40 : Value).ownBlock) v298 t297) ∧ (Kd.R (Kd.int .i64) 2 w' w.heap.size (fun k_ => some k_ ≠ (v298 : Value).ownBlock) (.slice Ao40 t310.length co40) t310) ∧ (w'.heap[gb292]? = some (.cells #[.int .i64 a0_0, .int .i64 a0_1, .slice A0_2 l0_2.length c0_2] 24 (0, 0))) ∧ (w'.heap[gb293]? = some (.cells #[.int .i64 a1_0, .int .i64 a1_1, .int .i64 a1_2] 26 (0, 0))) ∧ (w'.heap[gb307]? = some (.cells #[.int .i64 t303, .int .i64 t304, .int .i64 t305] 31 (0, 0))) ∧ (w'.heap[gb313]? = some (.cells #[.int .i64 t308, .int .i64 t309, .slice Ao40 t310.length co40] 29 (0, 0))) ∧ (w'.heap[s_]? = some (.cells #[.int .i64 0, .int .i64 0, .int .i64 0] 31 (0, 0))) ∧ (w.heap.size ≤ s_) ∧ (w.heap.size ≤ s_) ∧ (gb292 ≠ s_) ∧ (s_ ≠ gb292) ∧ (gb293 ≠ s_) ∧ (s_ ≠ gb293) ∧ (gb307 ≠ s_) ∧ (s_ ≠ gb307) ∧ (gb313 ≠ s_) ∧ (s_ ≠ gb313) ∧ (Below w.heap.size w w')) ?_ ?_
   rotate_left
   · intro hCont
     refine two_ (i := 2) (j := 7) (Ni := some 29) (Nj := some 9) laws_FnExactInverseMotion.d22 laws_FnExactInverseMotion.d23 rfl rfl rfl rfl (two_of HT_.out (by kernel_rfl)) (by decide) (by decide) (fun K hK => ?_) (fun K hK => ?_)
     · skip
       refine goes_ Try.func18 (by kernel_rfl) rfl #[.agg #[.int .i64 a1_0, .int .i64 a1_1, .int .i64 a1_2]] (by rfl) rfl rfl (by (try simp only [List.map_toArray, List.map_cons, List.map_nil]); first | done | rfl | (simp only [List.length_drop, List.length_take]; rfl)) ?_
       with_reducible refine (laws_toMotion.calls a1_0 a1_1 a1_2 t314 t315 t316 _ A14.out).mono ?_
       rintro e w43 ⟨rfl, hb⟩
       refine ⟨_, rfl, ?_⟩
       have n0_ := mkA (Kd.R_below (by (with_reducible repeat (first | apply Kd.R_alloc | apply Kd.R_drewN | apply Kd.R_drew)); exact HO299.out) hb)
       have n1_ := mkA (Kd.R_below (by (with_reducible repeat (first | apply Kd.R_alloc | apply Kd.R_drewN | apply Kd.R_drew)); exact HO312.out) hb)
       have n2_ := mkA (blk_below (g := gb292) (o := .cells #[.int .i64 a0_0, .int .i64 a0_1, .slice A0_2 l0_2.length c0_2] 24 (0, 0)) (bl_ BK292.out) hb)
       have n3_ := mkA (blk_below (g := gb293) (o := .cells #[.int .i64 a1_0, .int .i64 a1_1, .int .i64 a1_2] 26 (0, 0)) (bl_ BK293.out) hb)
       have n4_ := mkA (blk_below (g := gb307) (o := .cells #[.int .i64 t303, .int .i64 t304, .int .i64 t305] 31 (0, 0)) (bl_ BK307.out) hb)
       have n5_ := mkA (blk_below (g := gb313) (o := .cells #[.int .i64 t308, .int .i64 t309, .slice Ao40 t310.length co40] 29 (0, 0)) (bl_ BK313.out) hb)
       have n6_ := mkA (below_step (bs4_ HB.out GE292.out GE293.out GE307.out GE313.out) hb)
       clear HO299
       clear HO312
       clear BK292
       clear BK293
       clear BK307
       clear BK313
       clear HB
       have HO299 := n0_
       have HO312 := n1_
       have BK292 := n2_
       have BK293 := n3_
       have BK307 := n4_
       have BK313 := n5_
       have HB := n6_
       clear n0_ n1_ n2_ n3_ n4_ n5_ n6_
       (try clear hb)
       (try clear hb2)
       (try clear hk)
       (try clear hi)
       refine hK.out _ _ ⟨(blk_cell BK313.out 0).trans rfl, (blk_cell BK313.out 1).trans rfl, (blk_cell BK313.out 2).trans rfl, (blk_cell BK293.out 0).trans rfl, (blk_cell BK293.out 1).trans rfl, (blk_cell BK293.out 2).trans rfl⟩ (fun hHeld => ?_)
       clear hK K
       refine norm_ (a' := ?_) ?_ ?_
       rotate_left
       · show Act.put _ (some 29) _ = _
         simp only [Act.put, sA, sB, sC, i64_w, i32_w]
         rfl
       refine two_ (i := 3) (j := 7) (Ni := some 30) (Nj := some 9) laws_FnExactInverseMotion.d24 laws_FnExactInverseMotion.d25 rfl rfl rfl rfl (two_of HT_.out (by kernel_rfl)) (by decide) (by decide) (fun K hK => ?_) (fun K hK => ?_)
       · skip
         refine goes_ Try.func33 (by kernel_rfl) rfl #[.agg #[.int .i64 t308, .int .i64 t309, .slice Ao40 t310.length co40], .agg #[.int .i64 t314, .int .i64 t315, .int .i64 t316]] (by rfl) rfl rfl (by (try simp only [List.map_toArray, List.map_cons, List.map_nil]); first | done | rfl | (simp only [List.length_drop, List.length_take]; rfl)) ?_
         with_reducible refine (impl_InverseMotion.calls k t308 t309 _ _ t310 t314 t315 t316 t317 t318 t319 t320 _ ?side1 ?side2 A15.out).mono ?_
         (case side1 => repeat (first | exact (Kd.R_reads' HO312.out).2.2 | (with_reducible refine Kd.C_alloc ?_ _) | (with_reducible refine Kd.C_drewN ?_ _) | (with_reducible refine Kd.C_drew ?_)))
         (case side2 => exact (Kd.R_reads' HO312.out).2.1)
         rintro e w44 ⟨rfl, hb⟩
         refine ⟨_, rfl, ?_⟩
         have n0_ := mkA (Kd.R_below (by (with_reducible repeat (first | apply Kd.R_alloc | apply Kd.R_drewN | apply Kd.R_drew)); exact HO299.out) hb)
         have n1_ := mkA (Kd.R_below (by (with_reducible repeat (first | apply Kd.R_alloc | apply Kd.R_drewN | apply Kd.R_drew)); exact HO312.out) hb)
         have n2_ := mkA (blk_below (g := gb292) (o := .cells #[.int .i64 a0_0, .int .i64 a0_1, .slice A0_2 l0_2.length c0_2] 24 (0, 0)) (bl_ BK292.out) hb)
         have n3_ := mkA (blk_below (g := gb293) (o := .cells #[.int .i64 a1_0, .int .i64 a1_1, .int .i64 a1_2] 26 (0, 0)) (bl_ BK293.out) hb)
         have n4_ := mkA (blk_below (g := gb307) (o := .cells #[.int .i64 t303, .int .i64 t304, .int .i64 t305] 31 (0, 0)) (bl_ BK307.out) hb)
         have n5_ := mkA (blk_below (g := gb313) (o := .cells #[.int .i64 t308, .int .i64 t309, .slice Ao40 t310.length co40] 29 (0, 0)) (bl_ BK313.out) hb)
         have n6_ := mkA (below_step (bs4_ HB.out GE292.out GE293.out GE307.out GE313.out) hb)
         clear HO299
         clear HO312
         clear BK292
         clear BK293
         clear BK307
         clear BK313
         clear HB
         have HO299 := n0_
         have HO312 := n1_
         have BK292 := n2_
         have BK293 := n3_
         have BK307 := n4_
         have BK313 := n5_
         have HB := n6_
         clear n0_ n1_ n2_ n3_ n4_ n5_ n6_
         (try clear hb)
         (try clear hb2)
         (try clear hk)
         (try clear hi)
         refine hK.out _ _ ⟨(blk_cell BK313.out 0).trans rfl, (blk_cell BK313.out 1).trans rfl, (blk_cell BK313.out 2).trans rfl, (blk_cell BK293.out 0).trans rfl, (blk_cell BK293.out 1).trans rfl, (blk_cell BK293.out 2).trans rfl⟩ (fun hHeld => ?_)
         clear hK K
         refine norm_ (a' := ?_) ?_ ?_
         rotate_left
         · show Act.put _ (some 30) _ = _
           simp only [Act.put, sA, sB, sC, i64_w, i32_w]
           rfl
         refine p1_ HT_.out 4 26 laws_FnExactInverseMotion.d26 ?_
         refine p1_ HT_.out 5 31 laws_FnExactInverseMotion.d27 ?_
         refine p1_ HT_.out 6 32 laws_FnExactInverseMotion.d28 ?_
         refine one_ (i := 7) (N := some 9) laws_FnExactInverseMotion.d21 rfl rfl (one_of HT_.out (by kernel_rfl)) (by decide) (fun K hK => ?_)
         refine box_step ?hg (N := 9) ?hd (cs := #[.int .i64 0, .int .i64 0, .int .i64 0]) (t := 31) ?hr ?_; (case hd => rfl); (case hg => rfl); (case hr => first | (go_simp; done) | (go_simp; rfl))
         intro gb321 hg w45 hbox hb
         have n0_ := mkA (Kd.R_below (by (with_reducible repeat (first | apply Kd.R_alloc | apply Kd.R_drewN | apply Kd.R_drew)); exact HO299.out) hb)
         have n1_ := mkA (Kd.R_below (by (with_reducible repeat (first | apply Kd.R_alloc | apply Kd.R_drewN | apply Kd.R_drew)); exact HO312.out) hb)
         have n2_ := mkA (blk_below (g := gb292) (o := .cells #[.int .i64 a0_0, .int .i64 a0_1, .slice A0_2 l0_2.length c0_2] 24 (0, 0)) (bl_ BK292.out) hb)
         have n3_ := mkA (blk_below (g := gb293) (o := .cells #[.int .i64 a1_0, .int .i64 a1_1, .int .i64 a1_2] 26 (0, 0)) (bl_ BK293.out) hb)
         have n4_ := mkA (blk_below (g := gb307) (o := .cells #[.int .i64 t303, .int .i64 t304, .int .i64 t305] 31 (0, 0)) (bl_ BK307.out) hb)
         have n5_ := mkA (blk_below (g := gb313) (o := .cells #[.int .i64 t308, .int .i64 t309, .slice Ao40 t310.length co40] 29 (0, 0)) (bl_ BK313.out) hb)
         have n6_ := mkA (below_step (bs4_ HB.out GE292.out GE293.out GE307.out GE313.out) hb)
         have n7_ := mkA (hbox)
         have n8_ := mkA ((by rw [hg]; exact (below_size (bs4_ HB.out GE292.out GE293.out GE307.out GE313.out)) : w.heap.size ≤ gb321))
         have n9_ := mkA ((by rw [hg]; exact (below_size (bs4_ HB.out GE292.out GE293.out GE307.out GE313.out)) : w.heap.size ≤ gb321))
         have n10_ := mkA ((by rw [hg]; exact Nat.ne_of_lt (blk_lt (g := gb292) (o := .cells #[.int .i64 a0_0, .int .i64 a0_1, .slice A0_2 l0_2.length c0_2] 24 (0, 0)) (bl_ BK292.out)) : gb292 ≠ gb321))
         have n11_ := mkA ((by rw [hg]; exact Nat.ne_of_gt (blk_lt (g := gb292) (o := .cells #[.int .i64 a0_0, .int .i64 a0_1, .slice A0_2 l0_2.length c0_2] 24 (0, 0)) (bl_ BK292.out)) : gb321 ≠ gb292))
         have n12_ := mkA ((by rw [hg]; exact Nat.ne_of_lt (blk_lt (g := gb293) (o := .cells #[.int .i64 a1_0, .int .i64 a1_1, .int .i64 a1_2] 26 (0, 0)) (bl_ BK293.out)) : gb293 ≠ gb321))
         have n13_ := mkA ((by rw [hg]; exact Nat.ne_of_gt (blk_lt (g := gb293) (o := .cells #[.int .i64 a1_0, .int .i64 a1_1, .int .i64 a1_2] 26 (0, 0)) (bl_ BK293.out)) : gb321 ≠ gb293))
         have n14_ := mkA ((by rw [hg]; exact Nat.ne_of_lt (blk_lt (g := gb307) (o := .cells #[.int .i64 t303, .int .i64 t304, .int .i64 t305] 31 (0, 0)) (bl_ BK307.out)) : gb307 ≠ gb321))
         have n15_ := mkA ((by rw [hg]; exact Nat.ne_of_gt (blk_lt (g := gb307) (o := .cells #[.int .i64 t303, .int .i64 t304, .int .i64 t305] 31 (0, 0)) (bl_ BK307.out)) : gb321 ≠ gb307))
         have n16_ := mkA ((by rw [hg]; exact Nat.ne_of_lt (blk_lt (g := gb313) (o := .cells #[.int .i64 t308, .int .i64 t309, .slice Ao40 t310.length co40] 29 (0, 0)) (bl_ BK313.out)) : gb313 ≠ gb321))
         have n17_ := mkA ((by rw [hg]; exact Nat.ne_of_gt (blk_lt (g := gb313) (o := .cells #[.int .i64 t308, .int .i64 t309, .slice Ao40 t310.length co40] 29 (0, 0)) (bl_ BK313.out)) : gb321 ≠ gb313))
         clear HO299
         clear HO312
         clear BK292
         clear BK293
         clear BK307
         clear BK313
         clear HB
         have HO299 := n0_
         have HO312 := n1_
         have BK292 := n2_
         have BK293 := n3_
         have BK307 := n4_
         have BK313 := n5_
         have HB := n6_
         have BK321 := n7_
         have GW321 := n8_
         have GE321 := n9_
         have NB292_321 := n10_
         have NB321_292 := n11_
         have NB293_321 := n12_
         have NB321_293 := n13_
         have NB307_321 := n14_
         have NB321_307 := n15_
         have NB313_321 := n16_
         have NB321_313 := n17_
         clear n0_ n1_ n2_ n3_ n4_ n5_ n6_ n7_ n8_ n9_ n10_ n11_ n12_ n13_ n14_ n15_ n16_ n17_
         clear hb hbox hg
         refine hK.out _ _ ⟨(blk_cell BK313.out 0).trans rfl, (blk_cell BK313.out 1).trans rfl, (blk_cell BK313.out 2).trans rfl, (blk_cell BK293.out 0).trans rfl, (blk_cell BK293.out 1).trans rfl, (blk_cell BK293.out 2).trans rfl⟩ (fun hHeld => ?_)
         clear hK K
         refine norm_ (a' := ?_) ?_ ?_
         rotate_left
         · show Act.put _ (some 9) _ = _
           simp only [Act.put, sA, sB, sC, i64_w, i32_w]
           rfl
         exact norm_ (by simp only [putAll, Act.put, sA, sB, sC]) (hCont (gb321) _ ⟨hHeld, (by (with_reducible repeat (first | apply Kd.R_alloc | apply Kd.R_drewN | apply Kd.R_drew)); exact HO299.out), (by (with_reducible repeat (first | apply Kd.R_alloc | apply Kd.R_drewN | apply Kd.R_drew)); exact HO312.out), (bl_ BK292.out), (bl_ BK293.out), (bl_ BK307.out), (bl_ BK313.out), (bl_ BK321.out), GW321.out, GE321.out, NB292_321.out, NB321_292.out, NB293_321.out, NB321_293.out, NB307_321.out, NB321_307.out, NB313_321.out, NB321_313.out, (bs5_ HB.out GE292.out GE293.out GE307.out GE313.out GE321.out)⟩)
       · skip
         refine box_step ?hg (N := 9) ?hd (cs := #[.int .i64 0, .int .i64 0, .int .i64 0]) (t := 31) ?hr ?_; (case hd => rfl); (case hg => rfl); (case hr => first | (go_simp; done) | (go_simp; rfl))
         intro gb321 hg w44 hbox hb
         have n0_ := mkA (Kd.R_below (by (with_reducible repeat (first | apply Kd.R_alloc | apply Kd.R_drewN | apply Kd.R_drew)); exact HO299.out) hb)
         have n1_ := mkA (Kd.R_below (by (with_reducible repeat (first | apply Kd.R_alloc | apply Kd.R_drewN | apply Kd.R_drew)); exact HO312.out) hb)
         have n2_ := mkA (blk_below (g := gb292) (o := .cells #[.int .i64 a0_0, .int .i64 a0_1, .slice A0_2 l0_2.length c0_2] 24 (0, 0)) (bl_ BK292.out) hb)
         have n3_ := mkA (blk_below (g := gb293) (o := .cells #[.int .i64 a1_0, .int .i64 a1_1, .int .i64 a1_2] 26 (0, 0)) (bl_ BK293.out) hb)
         have n4_ := mkA (blk_below (g := gb307) (o := .cells #[.int .i64 t303, .int .i64 t304, .int .i64 t305] 31 (0, 0)) (bl_ BK307.out) hb)
         have n5_ := mkA (blk_below (g := gb313) (o := .cells #[.int .i64 t308, .int .i64 t309, .slice Ao40 t310.length co40] 29 (0, 0)) (bl_ BK313.out) hb)
         have n6_ := mkA (below_step (bs4_ HB.out GE292.out GE293.out GE307.out GE313.out) hb)
         have n7_ := mkA (hbox)
         have n8_ := mkA ((by rw [hg]; exact (below_size (bs4_ HB.out GE292.out GE293.out GE307.out GE313.out)) : w.heap.size ≤ gb321))
         have n9_ := mkA ((by rw [hg]; exact (below_size (bs4_ HB.out GE292.out GE293.out GE307.out GE313.out)) : w.heap.size ≤ gb321))
         have n10_ := mkA ((by rw [hg]; exact Nat.ne_of_lt (blk_lt (g := gb292) (o := .cells #[.int .i64 a0_0, .int .i64 a0_1, .slice A0_2 l0_2.length c0_2] 24 (0, 0)) (bl_ BK292.out)) : gb292 ≠ gb321))
         have n11_ := mkA ((by rw [hg]; exact Nat.ne_of_gt (blk_lt (g := gb292) (o := .cells #[.int .i64 a0_0, .int .i64 a0_1, .slice A0_2 l0_2.length c0_2] 24 (0, 0)) (bl_ BK292.out)) : gb321 ≠ gb292))
         have n12_ := mkA ((by rw [hg]; exact Nat.ne_of_lt (blk_lt (g := gb293) (o := .cells #[.int .i64 a1_0, .int .i64 a1_1, .int .i64 a1_2] 26 (0, 0)) (bl_ BK293.out)) : gb293 ≠ gb321))
         have n13_ := mkA ((by rw [hg]; exact Nat.ne_of_gt (blk_lt (g := gb293) (o := .cells #[.int .i64 a1_0, .int .i64 a1_1, .int .i64 a1_2] 26 (0, 0)) (bl_ BK293.out)) : gb321 ≠ gb293))
         have n14_ := mkA ((by rw [hg]; exact Nat.ne_of_lt (blk_lt (g := gb307) (o := .cells #[.int .i64 t303, .int .i64 t304, .int .i64 t305] 31 (0, 0)) (bl_ BK307.out)) : gb307 ≠ gb321))
         have n15_ := mkA ((by rw [hg]; exact Nat.ne_of_gt (blk_lt (g := gb307) (o := .cells #[.int .i64 t303, .int .i64 t304, .int .i64 t305] 31 (0, 0)) (bl_ BK307.out)) : gb321 ≠ gb307))
         have n16_ := mkA ((by rw [hg]; exact Nat.ne_of_lt (blk_lt (g := gb313) (o := .cells #[.int .i64 t308, .int .i64 t309, .slice Ao40 t310.length co40] 29 (0, 0)) (bl_ BK313.out)) : gb313 ≠ gb321))
         have n17_ := mkA ((by rw [hg]; exact Nat.ne_of_gt (blk_lt (g := gb313) (o := .cells #[.int .i64 t308, .int .i64 t309, .slice Ao40 t310.length co40] 29 (0, 0)) (bl_ BK313.out)) : gb321 ≠ gb313))
         clear HO299
         clear HO312
         clear BK292
         clear BK293
         clear BK307
         clear BK313
         clear HB
         have HO299 := n0_
         have HO312 := n1_
         have BK292 := n2_
         have BK293 := n3_
         have BK307 := n4_
         have BK313 := n5_
         have HB := n6_
         have BK321 := n7_
         have GW321 := n8_
         have GE321 := n9_
         have NB292_321 := n10_
         have NB321_292 := n11_
         have NB293_321 := n12_
         have NB321_293 := n13_
         have NB307_321 := n14_
         have NB321_307 := n15_
         have NB313_321 := n16_
         have NB321_313 := n17_
         clear n0_ n1_ n2_ n3_ n4_ n5_ n6_ n7_ n8_ n9_ n10_ n11_ n12_ n13_ n14_ n15_ n16_ n17_
         clear hb hbox hg
         refine hK.out _ _ ⟨(blk_cell BK313.out 0).trans rfl, (blk_cell BK313.out 1).trans rfl, (blk_cell BK313.out 2).trans rfl, (blk_cell BK293.out 0).trans rfl, (blk_cell BK293.out 1).trans rfl, (blk_cell BK293.out 2).trans rfl⟩ (fun hHeld => ?_)
         clear hK K
         refine norm_ (a' := ?_) ?_ ?_
         rotate_left
         · show Act.put _ (some 9) _ = _
           simp only [Act.put, sA, sB, sC, i64_w, i32_w]
           rfl
         refine one_ (i := 3) (N := some 30) laws_FnExactInverseMotion.d29 rfl rfl (one_of HT_.out (by kernel_rfl)) (by decide) (fun K hK => ?_)
         refine goes_ Try.func33 (by kernel_rfl) rfl #[.agg #[.int .i64 t308, .int .i64 t309, .slice Ao40 t310.length co40], .agg #[.int .i64 t314, .int .i64 t315, .int .i64 t316]] (by rfl) rfl rfl (by (try simp only [List.map_toArray, List.map_cons, List.map_nil]); first | done | rfl | (simp only [List.length_drop, List.length_take]; rfl)) ?_
         with_reducible refine (impl_InverseMotion.calls k t308 t309 _ _ t310 t314 t315 t316 t317 t318 t319 t320 _ ?side1 ?side2 A15.out).mono ?_
         (case side1 => repeat (first | exact (Kd.R_reads' HO312.out).2.2 | (with_reducible refine Kd.C_alloc ?_ _) | (with_reducible refine Kd.C_drewN ?_ _) | (with_reducible refine Kd.C_drew ?_)))
         (case side2 => exact (Kd.R_reads' HO312.out).2.1)
         rintro e w45 ⟨rfl, hb⟩
         refine ⟨_, rfl, ?_⟩
         have n0_ := mkA (Kd.R_below (by (with_reducible repeat (first | apply Kd.R_alloc | apply Kd.R_drewN | apply Kd.R_drew)); exact HO299.out) hb)
         have n1_ := mkA (Kd.R_below (by (with_reducible repeat (first | apply Kd.R_alloc | apply Kd.R_drewN | apply Kd.R_drew)); exact HO312.out) hb)
         have n2_ := mkA (blk_below (g := gb292) (o := .cells #[.int .i64 a0_0, .int .i64 a0_1, .slice A0_2 l0_2.length c0_2] 24 (0, 0)) (bl_ BK292.out) hb)
         have n3_ := mkA (blk_below (g := gb293) (o := .cells #[.int .i64 a1_0, .int .i64 a1_1, .int .i64 a1_2] 26 (0, 0)) (bl_ BK293.out) hb)
         have n4_ := mkA (blk_below (g := gb307) (o := .cells #[.int .i64 t303, .int .i64 t304, .int .i64 t305] 31 (0, 0)) (bl_ BK307.out) hb)
         have n5_ := mkA (blk_below (g := gb313) (o := .cells #[.int .i64 t308, .int .i64 t309, .slice Ao40 t310.length co40] 29 (0, 0)) (bl_ BK313.out) hb)
         have n6_ := mkA (blk_below (g := gb321) (o := .cells #[.int .i64 0, .int .i64 0, .int .i64 0] 31 (0, 0)) (bl_ BK321.out) hb)
         have n7_ := mkA (below_step (bs5_ HB.out GE292.out GE293.out GE307.out GE313.out GE321.out) hb)
         clear HO299
         clear HO312
         clear BK292
         clear BK293
         clear BK307
         clear BK313
         clear BK321
         clear HB
         have HO299 := n0_
         have HO312 := n1_
         have BK292 := n2_
         have BK293 := n3_
         have BK307 := n4_
         have BK313 := n5_
         have BK321 := n6_
         have HB := n7_
         clear n0_ n1_ n2_ n3_ n4_ n5_ n6_ n7_
         (try clear hb)
         (try clear hb2)
         (try clear hk)
         (try clear hi)
         refine hK.out _ _ ⟨(blk_cell BK313.out 0).trans rfl, (blk_cell BK313.out 1).trans rfl, (blk_cell BK313.out 2).trans rfl, (blk_cell BK293.out 0).trans rfl, (blk_cell BK293.out 1).trans rfl, (blk_cell BK293.out 2).trans rfl⟩ (fun hHeld => ?_)
         clear hK K
         refine norm_ (a' := ?_) ?_ ?_
         rotate_left
         · show Act.put _ (some 30) _ = _
           simp only [Act.put, sA, sB, sC, i64_w, i32_w]
           rfl
         refine p1_ HT_.out 4 26 laws_FnExactInverseMotion.d30 ?_
         refine p1_ HT_.out 5 31 laws_FnExactInverseMotion.d31 ?_
         refine p1_ HT_.out 6 32 laws_FnExactInverseMotion.d21 ?_
         exact norm_ (by simp only [putAll, Act.put, sA, sB, sC]) (hCont (gb321) _ ⟨hHeld, (by (with_reducible repeat (first | apply Kd.R_alloc | apply Kd.R_drewN | apply Kd.R_drew)); exact HO299.out), (by (with_reducible repeat (first | apply Kd.R_alloc | apply Kd.R_drewN | apply Kd.R_drew)); exact HO312.out), (bl_ BK292.out), (bl_ BK293.out), (bl_ BK307.out), (bl_ BK313.out), (bl_ BK321.out), GW321.out, GE321.out, NB292_321.out, NB321_292.out, NB293_321.out, NB321_293.out, NB307_321.out, NB321_307.out, NB313_321.out, NB321_313.out, (bs5_ HB.out GE292.out GE293.out GE307.out GE313.out GE321.out)⟩)
     · skip
       refine box_step ?hg (N := 9) ?hd (cs := #[.int .i64 0, .int .i64 0, .int .i64 0]) (t := 31) ?hr ?_; (case hd => rfl); (case hg => rfl); (case hr => first | (go_simp; done) | (go_simp; rfl))
       intro gb321 hg w43 hbox hb
       have n0_ := mkA (Kd.R_below (by (with_reducible repeat (first | apply Kd.R_alloc | apply Kd.R_drewN | apply Kd.R_drew)); exact HO299.out) hb)
       have n1_ := mkA (Kd.R_below (by (with_reducible repeat (first | apply Kd.R_alloc | apply Kd.R_drewN | apply Kd.R_drew)); exact HO312.out) hb)
       have n2_ := mkA (blk_below (g := gb292) (o := .cells #[.int .i64 a0_0, .int .i64 a0_1, .slice A0_2 l0_2.length c0_2] 24 (0, 0)) (bl_ BK292.out) hb)
       have n3_ := mkA (blk_below (g := gb293) (o := .cells #[.int .i64 a1_0, .int .i64 a1_1, .int .i64 a1_2] 26 (0, 0)) (bl_ BK293.out) hb)
       have n4_ := mkA (blk_below (g := gb307) (o := .cells #[.int .i64 t303, .int .i64 t304, .int .i64 t305] 31 (0, 0)) (bl_ BK307.out) hb)
       have n5_ := mkA (blk_below (g := gb313) (o := .cells #[.int .i64 t308, .int .i64 t309, .slice Ao40 t310.length co40] 29 (0, 0)) (bl_ BK313.out) hb)
       have n6_ := mkA (below_step (bs4_ HB.out GE292.out GE293.out GE307.out GE313.out) hb)
       have n7_ := mkA (hbox)
       have n8_ := mkA ((by rw [hg]; exact (below_size (bs4_ HB.out GE292.out GE293.out GE307.out GE313.out)) : w.heap.size ≤ gb321))
       have n9_ := mkA ((by rw [hg]; exact (below_size (bs4_ HB.out GE292.out GE293.out GE307.out GE313.out)) : w.heap.size ≤ gb321))
       have n10_ := mkA ((by rw [hg]; exact Nat.ne_of_lt (blk_lt (g := gb292) (o := .cells #[.int .i64 a0_0, .int .i64 a0_1, .slice A0_2 l0_2.length c0_2] 24 (0, 0)) (bl_ BK292.out)) : gb292 ≠ gb321))
       have n11_ := mkA ((by rw [hg]; exact Nat.ne_of_gt (blk_lt (g := gb292) (o := .cells #[.int .i64 a0_0, .int .i64 a0_1, .slice A0_2 l0_2.length c0_2] 24 (0, 0)) (bl_ BK292.out)) : gb321 ≠ gb292))
       have n12_ := mkA ((by rw [hg]; exact Nat.ne_of_lt (blk_lt (g := gb293) (o := .cells #[.int .i64 a1_0, .int .i64 a1_1, .int .i64 a1_2] 26 (0, 0)) (bl_ BK293.out)) : gb293 ≠ gb321))
       have n13_ := mkA ((by rw [hg]; exact Nat.ne_of_gt (blk_lt (g := gb293) (o := .cells #[.int .i64 a1_0, .int .i64 a1_1, .int .i64 a1_2] 26 (0, 0)) (bl_ BK293.out)) : gb321 ≠ gb293))
       have n14_ := mkA ((by rw [hg]; exact Nat.ne_of_lt (blk_lt (g := gb307) (o := .cells #[.int .i64 t303, .int .i64 t304, .int .i64 t305] 31 (0, 0)) (bl_ BK307.out)) : gb307 ≠ gb321))
       have n15_ := mkA ((by rw [hg]; exact Nat.ne_of_gt (blk_lt (g := gb307) (o := .cells #[.int .i64 t303, .int .i64 t304, .int .i64 t305] 31 (0, 0)) (bl_ BK307.out)) : gb321 ≠ gb307))
       have n16_ := mkA ((by rw [hg]; exact Nat.ne_of_lt (blk_lt (g := gb313) (o := .cells #[.int .i64 t308, .int .i64 t309, .slice Ao40 t310.length co40] 29 (0, 0)) (bl_ BK313.out)) : gb313 ≠ gb321))
       have n17_ := mkA ((by rw [hg]; exact Nat.ne_of_gt (blk_lt (g := gb313) (o := .cells #[.int .i64 t308, .int .i64 t309, .slice Ao40 t310.length co40] 29 (0, 0)) (bl_ BK313.out)) : gb321 ≠ gb313))
       clear HO299
       clear HO312
       clear BK292
       clear BK293
       clear BK307
       clear BK313
       clear HB
       have HO299 := n0_
       have HO312 := n1_
       have BK292 := n2_
       have BK293 := n3_
       have BK307 := n4_
       have BK313 := n5_
       have HB := n6_
       have BK321 := n7_
       have GW321 := n8_
       have GE321 := n9_
       have NB292_321 := n10_
       have NB321_292 := n11_
       have NB293_321 := n12_
       have NB321_293 := n13_
       have NB307_321 := n14_
       have NB321_307 := n15_
       have NB313_321 := n16_
       have NB321_313 := n17_
       clear n0_ n1_ n2_ n3_ n4_ n5_ n6_ n7_ n8_ n9_ n10_ n11_ n12_ n13_ n14_ n15_ n16_ n17_
       clear hb hbox hg
       refine hK.out _ _ ⟨(blk_cell BK313.out 0).trans rfl, (blk_cell BK313.out 1).trans rfl, (blk_cell BK313.out 2).trans rfl, (blk_cell BK293.out 0).trans rfl, (blk_cell BK293.out 1).trans rfl, (blk_cell BK293.out 2).trans rfl⟩ (fun hHeld => ?_)
       clear hK K
       refine norm_ (a' := ?_) ?_ ?_
       rotate_left
       · show Act.put _ (some 9) _ = _
         simp only [Act.put, sA, sB, sC, i64_w, i32_w]
         rfl
       refine one_ (i := 2) (N := some 29) laws_FnExactInverseMotion.d25 rfl rfl (one_of HT_.out (by kernel_rfl)) (by decide) (fun K hK => ?_)
       refine goes_ Try.func18 (by kernel_rfl) rfl #[.agg #[.int .i64 a1_0, .int .i64 a1_1, .int .i64 a1_2]] (by rfl) rfl rfl (by (try simp only [List.map_toArray, List.map_cons, List.map_nil]); first | done | rfl | (simp only [List.length_drop, List.length_take]; rfl)) ?_
       with_reducible refine (laws_toMotion.calls a1_0 a1_1 a1_2 t314 t315 t316 _ A14.out).mono ?_
       rintro e w44 ⟨rfl, hb⟩
       refine ⟨_, rfl, ?_⟩
       have n0_ := mkA (Kd.R_below (by (with_reducible repeat (first | apply Kd.R_alloc | apply Kd.R_drewN | apply Kd.R_drew)); exact HO299.out) hb)
       have n1_ := mkA (Kd.R_below (by (with_reducible repeat (first | apply Kd.R_alloc | apply Kd.R_drewN | apply Kd.R_drew)); exact HO312.out) hb)
       have n2_ := mkA (blk_below (g := gb292) (o := .cells #[.int .i64 a0_0, .int .i64 a0_1, .slice A0_2 l0_2.length c0_2] 24 (0, 0)) (bl_ BK292.out) hb)
       have n3_ := mkA (blk_below (g := gb293) (o := .cells #[.int .i64 a1_0, .int .i64 a1_1, .int .i64 a1_2] 26 (0, 0)) (bl_ BK293.out) hb)
       have n4_ := mkA (blk_below (g := gb307) (o := .cells #[.int .i64 t303, .int .i64 t304, .int .i64 t305] 31 (0, 0)) (bl_ BK307.out) hb)
       have n5_ := mkA (blk_below (g := gb313) (o := .cells #[.int .i64 t308, .int .i64 t309, .slice Ao40 t310.length co40] 29 (0, 0)) (bl_ BK313.out) hb)
       have n6_ := mkA (blk_below (g := gb321) (o := .cells #[.int .i64 0, .int .i64 0, .int .i64 0] 31 (0, 0)) (bl_ BK321.out) hb)
       have n7_ := mkA (below_step (bs5_ HB.out GE292.out GE293.out GE307.out GE313.out GE321.out) hb)
       clear HO299
       clear HO312
       clear BK292
       clear BK293
       clear BK307
       clear BK313
       clear BK321
       clear HB
       have HO299 := n0_
       have HO312 := n1_
       have BK292 := n2_
       have BK293 := n3_
       have BK307 := n4_
       have BK313 := n5_
       have BK321 := n6_
       have HB := n7_
       clear n0_ n1_ n2_ n3_ n4_ n5_ n6_ n7_
       (try clear hb)
       (try clear hb2)
       (try clear hk)
       (try clear hi)
       refine hK.out _ _ ⟨(blk_cell BK313.out 0).trans rfl, (blk_cell BK313.out 1).trans rfl, (blk_cell BK313.out 2).trans rfl, (blk_cell BK293.out 0).trans rfl, (blk_cell BK293.out 1).trans rfl, (blk_cell BK293.out 2).trans rfl⟩ (fun hHeld => ?_)
       clear hK K
       refine norm_ (a' := ?_) ?_ ?_
       rotate_left
       · show Act.put _ (some 29) _ = _
         simp only [Act.put, sA, sB, sC, i64_w, i32_w]
         rfl
       refine one_ (i := 3) (N := some 30) laws_FnExactInverseMotion.d29 rfl rfl (one_of HT_.out (by kernel_rfl)) (by decide) (fun K hK => ?_)
       refine goes_ Try.func33 (by kernel_rfl) rfl #[.agg #[.int .i64 t308, .int .i64 t309, .slice Ao40 t310.length co40], .agg #[.int .i64 t314, .int .i64 t315, .int .i64 t316]] (by rfl) rfl rfl (by (try simp only [List.map_toArray, List.map_cons, List.map_nil]); first | done | rfl | (simp only [List.length_drop, List.length_take]; rfl)) ?_
       with_reducible refine (impl_InverseMotion.calls k t308 t309 _ _ t310 t314 t315 t316 t317 t318 t319 t320 _ ?side1 ?side2 A15.out).mono ?_
       (case side1 => repeat (first | exact (Kd.R_reads' HO312.out).2.2 | (with_reducible refine Kd.C_alloc ?_ _) | (with_reducible refine Kd.C_drewN ?_ _) | (with_reducible refine Kd.C_drew ?_)))
       (case side2 => exact (Kd.R_reads' HO312.out).2.1)
       rintro e w45 ⟨rfl, hb⟩
       refine ⟨_, rfl, ?_⟩
       have n0_ := mkA (Kd.R_below (by (with_reducible repeat (first | apply Kd.R_alloc | apply Kd.R_drewN | apply Kd.R_drew)); exact HO299.out) hb)
       have n1_ := mkA (Kd.R_below (by (with_reducible repeat (first | apply Kd.R_alloc | apply Kd.R_drewN | apply Kd.R_drew)); exact HO312.out) hb)
       have n2_ := mkA (blk_below (g := gb292) (o := .cells #[.int .i64 a0_0, .int .i64 a0_1, .slice A0_2 l0_2.length c0_2] 24 (0, 0)) (bl_ BK292.out) hb)
       have n3_ := mkA (blk_below (g := gb293) (o := .cells #[.int .i64 a1_0, .int .i64 a1_1, .int .i64 a1_2] 26 (0, 0)) (bl_ BK293.out) hb)
       have n4_ := mkA (blk_below (g := gb307) (o := .cells #[.int .i64 t303, .int .i64 t304, .int .i64 t305] 31 (0, 0)) (bl_ BK307.out) hb)
       have n5_ := mkA (blk_below (g := gb313) (o := .cells #[.int .i64 t308, .int .i64 t309, .slice Ao40 t310.length co40] 29 (0, 0)) (bl_ BK313.out) hb)
       have n6_ := mkA (blk_below (g := gb321) (o := .cells #[.int .i64 0, .int .i64 0, .int .i64 0] 31 (0, 0)) (bl_ BK321.out) hb)
       have n7_ := mkA (below_step (bs5_ HB.out GE292.out GE293.out GE307.out GE313.out GE321.out) hb)
       clear HO299
       clear HO312
       clear BK292
       clear BK293
       clear BK307
       clear BK313
       clear BK321
       clear HB
       have HO299 := n0_
       have HO312 := n1_
       have BK292 := n2_
       have BK293 := n3_
       have BK307 := n4_
       have BK313 := n5_
       have BK321 := n6_
       have HB := n7_
       clear n0_ n1_ n2_ n3_ n4_ n5_ n6_ n7_
       (try clear hb)
       (try clear hb2)
       (try clear hk)
       (try clear hi)
       refine hK.out _ _ ⟨(blk_cell BK313.out 0).trans rfl, (blk_cell BK313.out 1).trans rfl, (blk_cell BK313.out 2).trans rfl, (blk_cell BK293.out 0).trans rfl, (blk_cell BK293.out 1).trans rfl, (blk_cell BK293.out 2).trans rfl⟩ (fun hHeld => ?_)
       clear hK K
       refine norm_ (a' := ?_) ?_ ?_
       rotate_left
       · show Act.put _ (some 30) _ = _
         simp only [Act.put, sA, sB, sC, i64_w, i32_w]
         rfl
       refine p1_ HT_.out 4 26 laws_FnExactInverseMotion.d30 ?_
       refine p1_ HT_.out 5 31 laws_FnExactInverseMotion.d31 ?_
       refine p1_ HT_.out 6 32 laws_FnExactInverseMotion.d21 ?_
       exact norm_ (by simp only [putAll, Act.put, sA, sB, sC]) (hCont (gb321) _ ⟨hHeld, (by (with_reducible repeat (first | apply Kd.R_alloc | apply Kd.R_drewN | apply Kd.R_drew)); exact HO299.out), (by (with_reducible repeat (first | apply Kd.R_alloc | apply Kd.R_drewN | apply Kd.R_drew)); exact HO312.out), (bl_ BK292.out), (bl_ BK293.out), (bl_ BK307.out), (bl_ BK313.out), (bl_ BK321.out), GW321.out, GE321.out, NB292_321.out, NB321_292.out, NB293_321.out, NB321_293.out, NB307_321.out, NB321_307.out, NB313_321.out, NB321_313.out, (bs5_ HB.out GE292.out GE293.out GE307.out GE313.out GE321.out)⟩)
   rintro gb321 w46 ⟨hS_, h0_, h1_, h2_, h3_, h4_, h5_, h6_, h7_, h8_, h9_, h10_, h11_, h12_, h13_, h14_, h15_, h16_, h17_⟩
   have n0_ : Aside0 (Kd.R (Kd.int .i64) 2 w46 w.heap.size (fun k_ => some k_ ≠ (.slice Ao40 t310.length co40 : Value).ownBlock) v298 t297) := ⟨h0_⟩
   have n1_ : Aside0 (Kd.R (Kd.int .i64) 2 w46 w.heap.size (fun k_ => some k_ ≠ (v298 : Value).ownBlock) (.slice Ao40 t310.length co40) t310) := ⟨h1_⟩
   have n2_ : Aside0 (w46.heap[gb292]? = some (.cells #[.int .i64 a0_0, .int .i64 a0_1, .slice A0_2 l0_2.length c0_2] 24 (0, 0))) := ⟨h2_⟩
   have n3_ : Aside0 (w46.heap[gb293]? = some (.cells #[.int .i64 a1_0, .int .i64 a1_1, .int .i64 a1_2] 26 (0, 0))) := ⟨h3_⟩
   have n4_ : Aside0 (w46.heap[gb307]? = some (.cells #[.int .i64 t303, .int .i64 t304, .int .i64 t305] 31 (0, 0))) := ⟨h4_⟩
   have n5_ : Aside0 (w46.heap[gb313]? = some (.cells #[.int .i64 t308, .int .i64 t309, .slice Ao40 t310.length co40] 29 (0, 0))) := ⟨h5_⟩
   have n6_ : Aside0 (w46.heap[gb321]? = some (.cells #[.int .i64 0, .int .i64 0, .int .i64 0] 31 (0, 0))) := ⟨h6_⟩
   have n7_ : Aside0 (w.heap.size ≤ gb321) := ⟨h7_⟩
   have n8_ : Aside0 (w.heap.size ≤ gb321) := ⟨h8_⟩
   have n9_ : Aside0 (gb292 ≠ gb321) := ⟨h9_⟩
   have n10_ : Aside0 (gb321 ≠ gb292) := ⟨h10_⟩
   have n11_ : Aside0 (gb293 ≠ gb321) := ⟨h11_⟩
   have n12_ : Aside0 (gb321 ≠ gb293) := ⟨h12_⟩
   have n13_ : Aside0 (gb307 ≠ gb321) := ⟨h13_⟩
   have n14_ : Aside0 (gb321 ≠ gb307) := ⟨h14_⟩
   have n15_ : Aside0 (gb313 ≠ gb321) := ⟨h15_⟩
   have n16_ : Aside0 (gb321 ≠ gb313) := ⟨h16_⟩
   have n17_ : Aside0 (Below w.heap.size w w46) := ⟨h17_⟩
   clear HO299
   clear HO312
   clear BK292
   clear BK293
   clear BK307
   clear BK313
   clear HB
   clear h0_ h1_ h2_ h3_ h4_ h5_ h6_ h7_ h8_ h9_ h10_ h11_ h12_ h13_ h14_ h15_ h16_ h17_
   have HO299 := n0_
   have HO312 := n1_
   have BK292 := n2_
   have BK293 := n3_
   have BK307 := n4_
   have BK313 := n5_
   have BK321 := n6_
   have GW321 := n7_
   have GE321 := n8_
   have NB292_321 := n9_
   have NB321_292 := n10_
   have NB293_321 := n11_
   have NB321_293 := n12_
   have NB307_321 := n13_
   have NB321_307 := n14_
   have NB313_321 := n15_
   have NB321_313 := n16_
   have HB := n17_
   clear n0_ n1_ n2_ n3_ n4_ n5_ n6_ n7_ n8_ n9_ n10_ n11_ n12_ n13_ n14_ n15_ n16_ n17_
   have hHeld : w46.cell? ⟨gb313, 0, none⟩ = some (.int .i64 t308) ∧ w46.cell? ⟨gb313, 1, none⟩ = some (.int .i64 t309) ∧ w46.cell? ⟨gb313, 2, none⟩ = some (.slice Ao40 t310.length co40) ∧ w46.cell? ⟨gb293, 0, none⟩ = some (.int .i64 a1_0) ∧ w46.cell? ⟨gb293, 1, none⟩ = some (.int .i64 a1_1) ∧ w46.cell? ⟨gb293, 2, none⟩ = some (.int .i64 a1_2) := hS_
   refine norm_ (a' := ?_) ?_ ?_
   rotate_left
   · simp only [putAll, Act.put, sA, sB, sC]
     rfl
   refine one_ (i := 8) (N := none) laws_FnExactInverseMotion.d32 rfl rfl (one_of HT_.out (by kernel_rfl)) (by decide) (fun K hK => ?_)
   have hs47 : w46.cell? ⟨gb321, 0, none⟩ = some (.int .i64 0) := (blk_cell BK321.out 0).trans rfl
   have hfs47 := blk_frozen BK321.out 0
   have hns47_0 := NB292_321.out
   have hns47_1 := NB293_321.out
   have hns47_2 := NB307_321.out
   have hns47_3 := NB313_321.out
   have hms47_0 := NB321_292.out
   have hms47_1 := NB321_293.out
   have hms47_2 := NB321_307.out
   have hms47_3 := NB321_313.out
   have hs48 : w46.cell? ⟨gb321, 1, none⟩ = some (.int .i64 0) := (blk_cell BK321.out 1).trans rfl
   have hfs48 := blk_frozen BK321.out 1
   have hns48_0 := NB292_321.out
   have hns48_1 := NB293_321.out
   have hns48_2 := NB307_321.out
   have hns48_3 := NB313_321.out
   have hms48_0 := NB321_292.out
   have hms48_1 := NB321_293.out
   have hms48_2 := NB321_307.out
   have hms48_3 := NB321_313.out
   have hs49 : w46.cell? ⟨gb321, 2, none⟩ = some (.int .i64 0) := (blk_cell BK321.out 2).trans rfl
   have hfs49 := blk_frozen BK321.out 2
   have hns49_0 := NB292_321.out
   have hns49_1 := NB293_321.out
   have hns49_2 := NB307_321.out
   have hns49_3 := NB313_321.out
   have hms49_0 := NB321_292.out
   have hms49_1 := NB321_293.out
   have hms49_2 := NB321_307.out
   have hms49_3 := NB321_313.out
   refine skip_ (w1 := ?_) (by rfl) rfl ?_ ?_
   rotate_left
   · go_simp
     rfl
   refine hK.out _ _ ⟨((cell_far (p := ⟨gb321, _, none⟩) NB313_321.out _).trans (((cell_far (p := ⟨gb321, _, none⟩) NB313_321.out _).trans (((cell_far (p := ⟨gb321, _, none⟩) NB313_321.out _).trans (hHeld.1)))))), ((cell_far (p := ⟨gb321, _, none⟩) NB313_321.out _).trans (((cell_far (p := ⟨gb321, _, none⟩) NB313_321.out _).trans (((cell_far (p := ⟨gb321, _, none⟩) NB313_321.out _).trans (hHeld.2.1)))))), ((cell_far (p := ⟨gb321, _, none⟩) NB313_321.out _).trans (((cell_far (p := ⟨gb321, _, none⟩) NB313_321.out _).trans (((cell_far (p := ⟨gb321, _, none⟩) NB313_321.out _).trans (hHeld.2.2.1)))))), ((cell_far (p := ⟨gb321, _, none⟩) NB293_321.out _).trans (((cell_far (p := ⟨gb321, _, none⟩) NB293_321.out _).trans (((cell_far (p := ⟨gb321, _, none⟩) NB293_321.out _).trans (hHeld.2.2.2.1)))))), ((cell_far (p := ⟨gb321, _, none⟩) NB293_321.out _).trans (((cell_far (p := ⟨gb321, _, none⟩) NB293_321.out _).trans (((cell_far (p := ⟨gb321, _, none⟩) NB293_321.out _).trans (hHeld.2.2.2.2.1)))))), ((cell_far (p := ⟨gb321, _, none⟩) NB293_321.out _).trans (((cell_far (p := ⟨gb321, _, none⟩) NB293_321.out _).trans (((cell_far (p := ⟨gb321, _, none⟩) NB293_321.out _).trans (hHeld.2.2.2.2.2))))))⟩ (fun hHeld => ?_)
   clear hK K
   refine p1_ HT_.out 9 10 laws_FnExactInverseMotion.d33 ?_
   refine done_ (done_of HT_.out (by kernel_rfl)) ?_
   go_upto_region 8 with (fail)
   go_cut [41] (fun v41 wc => ∃ (kq : Nat) (x41_15 : Bool), v41 = .bool x41_15 ∧ Aside0 (laws_FnExactInverseMotion.j0 kq x41_15 a0_0 a0_1 l0_2 t308 t309 t310 = some r) ∧ Aside0 (kq ≤ k) ∧ Aside0 (Kd.R (Kd.int .i64) 2 wc w.heap.size (fun _ => True) (.slice Ao40 t310.length co40) t310) ∧ Aside0 (wc.heap[gb292]? = some (.cells #[.int .i64 a0_0, .int .i64 a0_1, (.slice A0_2 l0_2.length c0_2)] 24 (0, 0))) ∧ Aside0 (wc.heap[gb293]? = some (.cells #[.int .i64 a1_0, .int .i64 a1_1, .int .i64 a1_2] 26 (0, 0))) ∧ Aside0 (wc.heap[gb307]? = some (.cells #[.int .i64 t303, .int .i64 t304, .int .i64 t305] 31 (0, 0))) ∧ Aside0 (wc.heap[gb313]? = some (.cells #[.int .i64 t308, .int .i64 t309, (.slice Ao40 t310.length co40)] 29 (0, 0))) ∧ Aside0 (wc.heap[gb321]? = some (.cells #[.int .i64 t317, .int .i64 t318, .int .i64 t319] 31 (0, 0))) ∧ Aside0 (Below w.heap.size w wc))
   case first =>
    have H := HC16.out
    clear HC16
    replace H := Option.bind_eq_some_iff.mp H
    obtain ⟨t322, A500, H⟩ := H
    replace H : (if t322 = true then (laws_FnExactInverseMotion.j0 k (t320 != t306) a0_0 a0_1 l0_2 t308 t309 t310) else (laws_FnExactInverseMotion.j0 k true a0_0 a0_1 l0_2 t308 t309 t310)) = some r := H
    have A50 := mkA A500
    clear A500
    by_cases c51 : t322 = true
    · subst c51
      have H1 : (laws_FnExactInverseMotion.j0 k (t320 != t306) a0_0 a0_1 l0_2 t308 t309 t310) = some r := by rw [if_pos rfl] at H; exact H
      clear H
      have H := H1
      clear H1
      have H' := mkA H
      clear H
      have hnb52 := NB321_292.out
      have hnc52 := NB292_321.out
      have hnb53 := NB321_293.out
      have hnc53 := NB293_321.out
      have hnb54 := NB321_307.out
      have hnc54 := NB307_321.out
      have hnb55 := NB321_313.out
      have hnc55 := NB313_321.out
      have hcz56_0 : w46.cell? ⟨gb321, 0, none⟩ = some (.int .i64 0) := (blk_cell BK321.out 0).trans rfl
      have hcz56_1 : w46.cell? ⟨gb321, 1, none⟩ = some (.int .i64 0) := (blk_cell BK321.out 1).trans rfl
      have hcz56_2 : w46.cell? ⟨gb321, 2, none⟩ = some (.int .i64 0) := (blk_cell BK321.out 2).trans rfl
      have hfz56_0 := blk_frozen BK321.out 0
      have hfz56_1 := blk_frozen BK321.out 1
      have hfz56_2 := blk_frozen BK321.out 2
      have hnb57 := NB307_292.out
      have hnc57 := NB292_307.out
      have hnb58 := NB307_293.out
      have hnc58 := NB293_307.out
      have hnb59 := NB307_313.out
      have hnc59 := NB313_307.out
      have hcz60_0 : w46.cell? ⟨gb307, 0, none⟩ = some (.int .i64 t303) := (blk_cell BK307.out 0).trans rfl
      have hcz60_1 : w46.cell? ⟨gb307, 1, none⟩ = some (.int .i64 t304) := (blk_cell BK307.out 1).trans rfl
      have hcz60_2 : w46.cell? ⟨gb307, 2, none⟩ = some (.int .i64 t305) := (blk_cell BK307.out 2).trans rfl
      have hfz60_0 := blk_frozen BK307.out 0
      have hfz60_1 := blk_frozen BK307.out 1
      have hfz60_2 := blk_frozen BK307.out 2
      go_wp2_with (first | ((with_reducible refine gate_callee (f := 34) rfl ?_); refine goesL_ (some 35) rfl rfl Try.func34 (by kernel_rfl) rfl #[.agg #[.int .i64 t317, .int .i64 t318, .int .i64 t319], .agg #[.int .i64 t303, .int .i64 t304, .int .i64 t305]] rfl (by (try simp only [List.map_toArray, List.map_cons, List.map_nil]); first | done | rfl | (simp only [List.length_drop, List.length_take]; rfl)) ?_; (with_reducible refine (laws_eqMotion.calls t317 t318 t319 t303 t304 t305 true _ A50.out).mono ?_); rintro e w61 ⟨rfl, hb⟩; refine ⟨_, rfl, ?_⟩; have n0_ := mkA (Kd.R_below (by (with_reducible repeat (first | apply Kd.R_alloc | apply Kd.R_drewN | apply Kd.R_drew)); exact (Kd.R_mono (Kd.R_far (p := ⟨gb321, 2, none⟩) (Kd.R_far (p := ⟨gb321, 1, none⟩) (Kd.R_far (p := ⟨gb321, 0, none⟩) (Kd.R_types HO299.out BK321.out (by decide)) (fun _ hk => hk.2) (.int .i64 t317)) (fun _ hk => hk.2) (.int .i64 t318)) (fun _ hk => hk.2) (.int .i64 t319)) (fun _ h_ => h_.1))) hb); have n1_ := mkA (Kd.R_below (by (with_reducible repeat (first | apply Kd.R_alloc | apply Kd.R_drewN | apply Kd.R_drew)); exact (Kd.R_mono (Kd.R_far (p := ⟨gb321, 2, none⟩) (Kd.R_far (p := ⟨gb321, 1, none⟩) (Kd.R_far (p := ⟨gb321, 0, none⟩) (Kd.R_types HO312.out BK321.out (by decide)) (fun _ hk => hk.2) (.int .i64 t317)) (fun _ hk => hk.2) (.int .i64 t318)) (fun _ hk => hk.2) (.int .i64 t319)) (fun _ h_ => h_.1))) hb); have n2_ := mkA (blk_below (g := gb292) (o := .cells #[.int .i64 a0_0, .int .i64 a0_1, .slice A0_2 l0_2.length c0_2] 24 (0, 0)) (by (with_reducible repeat (first | refine blk_drewN ?_ _ | refine blk_drew ?_ | refine blk_alloc ?_ _)); refine blk_far ?_ NB292_321.out _; (with_reducible repeat (first | refine blk_drewN ?_ _ | refine blk_drew ?_ | refine blk_alloc ?_ _)); refine blk_far ?_ NB292_321.out _; (with_reducible repeat (first | refine blk_drewN ?_ _ | refine blk_drew ?_ | refine blk_alloc ?_ _)); refine blk_far ?_ NB292_321.out _; (with_reducible repeat (first | refine blk_drewN ?_ _ | refine blk_drew ?_ | refine blk_alloc ?_ _)); exact BK292.out) hb); have n3_ := mkA (blk_below (g := gb293) (o := .cells #[.int .i64 a1_0, .int .i64 a1_1, .int .i64 a1_2] 26 (0, 0)) (by (with_reducible repeat (first | refine blk_drewN ?_ _ | refine blk_drew ?_ | refine blk_alloc ?_ _)); refine blk_far ?_ NB293_321.out _; (with_reducible repeat (first | refine blk_drewN ?_ _ | refine blk_drew ?_ | refine blk_alloc ?_ _)); refine blk_far ?_ NB293_321.out _; (with_reducible repeat (first | refine blk_drewN ?_ _ | refine blk_drew ?_ | refine blk_alloc ?_ _)); refine blk_far ?_ NB293_321.out _; (with_reducible repeat (first | refine blk_drewN ?_ _ | refine blk_drew ?_ | refine blk_alloc ?_ _)); exact BK293.out) hb); have n4_ := mkA (blk_below (g := gb307) (o := .cells #[.int .i64 t303, .int .i64 t304, .int .i64 t305] 31 (0, 0)) (by (with_reducible repeat (first | refine blk_drewN ?_ _ | refine blk_drew ?_ | refine blk_alloc ?_ _)); refine blk_far ?_ NB307_321.out _; (with_reducible repeat (first | refine blk_drewN ?_ _ | refine blk_drew ?_ | refine blk_alloc ?_ _)); refine blk_far ?_ NB307_321.out _; (with_reducible repeat (first | refine blk_drewN ?_ _ | refine blk_drew ?_ | refine blk_alloc ?_ _)); refine blk_far ?_ NB307_321.out _; (with_reducible repeat (first | refine blk_drewN ?_ _ | refine blk_drew ?_ | refine blk_alloc ?_ _)); exact BK307.out) hb); have n5_ := mkA (blk_below (g := gb313) (o := .cells #[.int .i64 t308, .int .i64 t309, .slice Ao40 t310.length co40] 29 (0, 0)) (by (with_reducible repeat (first | refine blk_drewN ?_ _ | refine blk_drew ?_ | refine blk_alloc ?_ _)); refine blk_far ?_ NB313_321.out _; (with_reducible repeat (first | refine blk_drewN ?_ _ | refine blk_drew ?_ | refine blk_alloc ?_ _)); refine blk_far ?_ NB313_321.out _; (with_reducible repeat (first | refine blk_drewN ?_ _ | refine blk_drew ?_ | refine blk_alloc ?_ _)); refine blk_far ?_ NB313_321.out _; (with_reducible repeat (first | refine blk_drewN ?_ _ | refine blk_drew ?_ | refine blk_alloc ?_ _)); exact BK313.out) hb); have n6_ := mkA (blk_below (g := gb321) (o := .cells #[.int .i64 t317, .int .i64 t318, .int .i64 t319] 31 (0, 0)) (by (with_reducible repeat (first | refine blk_drewN ?_ _ | refine blk_drew ?_ | refine blk_alloc ?_ _)); refine blk_put (cs := #[.int .i64 t317, .int .i64 t318, .int .i64 0]) ?_ 2 _ rfl; (with_reducible repeat (first | refine blk_drewN ?_ _ | refine blk_drew ?_ | refine blk_alloc ?_ _)); refine blk_put (cs := #[.int .i64 t317, .int .i64 0, .int .i64 0]) ?_ 1 _ rfl; (with_reducible repeat (first | refine blk_drewN ?_ _ | refine blk_drew ?_ | refine blk_alloc ?_ _)); refine blk_put (cs := #[.int .i64 0, .int .i64 0, .int .i64 0]) ?_ 0 _ rfl; (with_reducible repeat (first | refine blk_drewN ?_ _ | refine blk_drew ?_ | refine blk_alloc ?_ _)); exact BK321.out) hb); have n7_ := mkA (below_step (bs5_ HB.out GE292.out GE293.out GE307.out GE313.out GE321.out) hb); clear HO299; clear HO312; clear BK292; clear BK293; clear BK307; clear BK313; clear BK321; clear HB; have HO299 := n0_; have HO312 := n1_; have BK292 := n2_; have BK293 := n3_; have BK307 := n4_; have BK313 := n5_; have BK321 := n6_; have HB := n7_; clear n0_ n1_ n2_ n3_ n4_ n5_ n6_ n7_; (try clear hb); (try clear hb2); (try clear hk); (try clear hi)))
      go_meet
      case rel => exact ⟨_, ((t320 != t306)), (by first | rfl | (simp; done) | (simp [*]; done) | (simp [i64_w, i32_w]; done)), H', ⟨by first | omega | exact Nat.le_refl _⟩, ⟨by (with_reducible repeat (first | apply Kd.R_alloc | apply Kd.R_drewN | apply Kd.R_drew)); exact Kd.R_mono HO312.out (fun _ hk => trivial)⟩, ⟨by (with_reducible repeat (first | refine blk_drewN ?_ _ | refine blk_drew ?_ | refine blk_alloc ?_ _)); exact BK292.out⟩, ⟨by (with_reducible repeat (first | refine blk_drewN ?_ _ | refine blk_drew ?_ | refine blk_alloc ?_ _)); exact BK293.out⟩, ⟨by (with_reducible repeat (first | refine blk_drewN ?_ _ | refine blk_drew ?_ | refine blk_alloc ?_ _)); exact BK307.out⟩, ⟨by (with_reducible repeat (first | refine blk_drewN ?_ _ | refine blk_drew ?_ | refine blk_alloc ?_ _)); exact BK313.out⟩, ⟨by (with_reducible repeat (first | refine blk_drewN ?_ _ | refine blk_drew ?_ | refine blk_alloc ?_ _)); exact BK321.out⟩, ⟨by repeat (first | (with_reducible first | exact HB.out | apply below_alloc | apply pw_below_drewN | apply below_drew1 | refine below_set ?_ GE292.out | refine below_set ?_ GE293.out | refine below_set ?_ GE307.out | refine below_set ?_ GE313.out | refine below_set ?_ GE321.out) | exact HB.out)⟩⟩
    · replace c51 := Bool.eq_false_iff.mpr c51
      subst c51
      have H1 : (laws_FnExactInverseMotion.j0 k true a0_0 a0_1 l0_2 t308 t309 t310) = some r := by rw [if_neg (show ¬ (false = true) by decide)] at H; exact H
      clear H
      have H := H1
      clear H1
      have H' := mkA H
      clear H
      have hnb62 := NB321_292.out
      have hnc62 := NB292_321.out
      have hnb63 := NB321_293.out
      have hnc63 := NB293_321.out
      have hnb64 := NB321_307.out
      have hnc64 := NB307_321.out
      have hnb65 := NB321_313.out
      have hnc65 := NB313_321.out
      have hcz66_0 : w46.cell? ⟨gb321, 0, none⟩ = some (.int .i64 0) := (blk_cell BK321.out 0).trans rfl
      have hcz66_1 : w46.cell? ⟨gb321, 1, none⟩ = some (.int .i64 0) := (blk_cell BK321.out 1).trans rfl
      have hcz66_2 : w46.cell? ⟨gb321, 2, none⟩ = some (.int .i64 0) := (blk_cell BK321.out 2).trans rfl
      have hfz66_0 := blk_frozen BK321.out 0
      have hfz66_1 := blk_frozen BK321.out 1
      have hfz66_2 := blk_frozen BK321.out 2
      have hnb67 := NB307_292.out
      have hnc67 := NB292_307.out
      have hnb68 := NB307_293.out
      have hnc68 := NB293_307.out
      have hnb69 := NB307_313.out
      have hnc69 := NB313_307.out
      have hcz70_0 : w46.cell? ⟨gb307, 0, none⟩ = some (.int .i64 t303) := (blk_cell BK307.out 0).trans rfl
      have hcz70_1 : w46.cell? ⟨gb307, 1, none⟩ = some (.int .i64 t304) := (blk_cell BK307.out 1).trans rfl
      have hcz70_2 : w46.cell? ⟨gb307, 2, none⟩ = some (.int .i64 t305) := (blk_cell BK307.out 2).trans rfl
      have hfz70_0 := blk_frozen BK307.out 0
      have hfz70_1 := blk_frozen BK307.out 1
      have hfz70_2 := blk_frozen BK307.out 2
      go_wp2_with (first | ((with_reducible refine gate_callee (f := 34) rfl ?_); refine goesL_ (some 35) rfl rfl Try.func34 (by kernel_rfl) rfl #[.agg #[.int .i64 t317, .int .i64 t318, .int .i64 t319], .agg #[.int .i64 t303, .int .i64 t304, .int .i64 t305]] rfl (by (try simp only [List.map_toArray, List.map_cons, List.map_nil]); first | done | rfl | (simp only [List.length_drop, List.length_take]; rfl)) ?_; (with_reducible refine (laws_eqMotion.calls t317 t318 t319 t303 t304 t305 false _ A50.out).mono ?_); rintro e w71 ⟨rfl, hb⟩; refine ⟨_, rfl, ?_⟩; have n0_ := mkA (Kd.R_below (by (with_reducible repeat (first | apply Kd.R_alloc | apply Kd.R_drewN | apply Kd.R_drew)); exact (Kd.R_mono (Kd.R_far (p := ⟨gb321, 2, none⟩) (Kd.R_far (p := ⟨gb321, 1, none⟩) (Kd.R_far (p := ⟨gb321, 0, none⟩) (Kd.R_types HO299.out BK321.out (by decide)) (fun _ hk => hk.2) (.int .i64 t317)) (fun _ hk => hk.2) (.int .i64 t318)) (fun _ hk => hk.2) (.int .i64 t319)) (fun _ h_ => h_.1))) hb); have n1_ := mkA (Kd.R_below (by (with_reducible repeat (first | apply Kd.R_alloc | apply Kd.R_drewN | apply Kd.R_drew)); exact (Kd.R_mono (Kd.R_far (p := ⟨gb321, 2, none⟩) (Kd.R_far (p := ⟨gb321, 1, none⟩) (Kd.R_far (p := ⟨gb321, 0, none⟩) (Kd.R_types HO312.out BK321.out (by decide)) (fun _ hk => hk.2) (.int .i64 t317)) (fun _ hk => hk.2) (.int .i64 t318)) (fun _ hk => hk.2) (.int .i64 t319)) (fun _ h_ => h_.1))) hb); have n2_ := mkA (blk_below (g := gb292) (o := .cells #[.int .i64 a0_0, .int .i64 a0_1, .slice A0_2 l0_2.length c0_2] 24 (0, 0)) (by (with_reducible repeat (first | refine blk_drewN ?_ _ | refine blk_drew ?_ | refine blk_alloc ?_ _)); refine blk_far ?_ NB292_321.out _; (with_reducible repeat (first | refine blk_drewN ?_ _ | refine blk_drew ?_ | refine blk_alloc ?_ _)); refine blk_far ?_ NB292_321.out _; (with_reducible repeat (first | refine blk_drewN ?_ _ | refine blk_drew ?_ | refine blk_alloc ?_ _)); refine blk_far ?_ NB292_321.out _; (with_reducible repeat (first | refine blk_drewN ?_ _ | refine blk_drew ?_ | refine blk_alloc ?_ _)); exact BK292.out) hb); have n3_ := mkA (blk_below (g := gb293) (o := .cells #[.int .i64 a1_0, .int .i64 a1_1, .int .i64 a1_2] 26 (0, 0)) (by (with_reducible repeat (first | refine blk_drewN ?_ _ | refine blk_drew ?_ | refine blk_alloc ?_ _)); refine blk_far ?_ NB293_321.out _; (with_reducible repeat (first | refine blk_drewN ?_ _ | refine blk_drew ?_ | refine blk_alloc ?_ _)); refine blk_far ?_ NB293_321.out _; (with_reducible repeat (first | refine blk_drewN ?_ _ | refine blk_drew ?_ | refine blk_alloc ?_ _)); refine blk_far ?_ NB293_321.out _; (with_reducible repeat (first | refine blk_drewN ?_ _ | refine blk_drew ?_ | refine blk_alloc ?_ _)); exact BK293.out) hb); have n4_ := mkA (blk_below (g := gb307) (o := .cells #[.int .i64 t303, .int .i64 t304, .int .i64 t305] 31 (0, 0)) (by (with_reducible repeat (first | refine blk_drewN ?_ _ | refine blk_drew ?_ | refine blk_alloc ?_ _)); refine blk_far ?_ NB307_321.out _; (with_reducible repeat (first | refine blk_drewN ?_ _ | refine blk_drew ?_ | refine blk_alloc ?_ _)); refine blk_far ?_ NB307_321.out _; (with_reducible repeat (first | refine blk_drewN ?_ _ | refine blk_drew ?_ | refine blk_alloc ?_ _)); refine blk_far ?_ NB307_321.out _; (with_reducible repeat (first | refine blk_drewN ?_ _ | refine blk_drew ?_ | refine blk_alloc ?_ _)); exact BK307.out) hb); have n5_ := mkA (blk_below (g := gb313) (o := .cells #[.int .i64 t308, .int .i64 t309, .slice Ao40 t310.length co40] 29 (0, 0)) (by (with_reducible repeat (first | refine blk_drewN ?_ _ | refine blk_drew ?_ | refine blk_alloc ?_ _)); refine blk_far ?_ NB313_321.out _; (with_reducible repeat (first | refine blk_drewN ?_ _ | refine blk_drew ?_ | refine blk_alloc ?_ _)); refine blk_far ?_ NB313_321.out _; (with_reducible repeat (first | refine blk_drewN ?_ _ | refine blk_drew ?_ | refine blk_alloc ?_ _)); refine blk_far ?_ NB313_321.out _; (with_reducible repeat (first | refine blk_drewN ?_ _ | refine blk_drew ?_ | refine blk_alloc ?_ _)); exact BK313.out) hb); have n6_ := mkA (blk_below (g := gb321) (o := .cells #[.int .i64 t317, .int .i64 t318, .int .i64 t319] 31 (0, 0)) (by (with_reducible repeat (first | refine blk_drewN ?_ _ | refine blk_drew ?_ | refine blk_alloc ?_ _)); refine blk_put (cs := #[.int .i64 t317, .int .i64 t318, .int .i64 0]) ?_ 2 _ rfl; (with_reducible repeat (first | refine blk_drewN ?_ _ | refine blk_drew ?_ | refine blk_alloc ?_ _)); refine blk_put (cs := #[.int .i64 t317, .int .i64 0, .int .i64 0]) ?_ 1 _ rfl; (with_reducible repeat (first | refine blk_drewN ?_ _ | refine blk_drew ?_ | refine blk_alloc ?_ _)); refine blk_put (cs := #[.int .i64 0, .int .i64 0, .int .i64 0]) ?_ 0 _ rfl; (with_reducible repeat (first | refine blk_drewN ?_ _ | refine blk_drew ?_ | refine blk_alloc ?_ _)); exact BK321.out) hb); have n7_ := mkA (below_step (bs5_ HB.out GE292.out GE293.out GE307.out GE313.out GE321.out) hb); clear HO299; clear HO312; clear BK292; clear BK293; clear BK307; clear BK313; clear BK321; clear HB; have HO299 := n0_; have HO312 := n1_; have BK292 := n2_; have BK293 := n3_; have BK307 := n4_; have BK313 := n5_; have BK321 := n6_; have HB := n7_; clear n0_ n1_ n2_ n3_ n4_ n5_ n6_ n7_; (try clear hb); (try clear hb2); (try clear hk); (try clear hi)))
      go_meet
      case rel => exact ⟨_, (true), (by first | rfl | (simp; done) | (simp [*]; done) | (simp [i64_w, i32_w]; done)), H', ⟨by first | omega | exact Nat.le_refl _⟩, ⟨by (with_reducible repeat (first | apply Kd.R_alloc | apply Kd.R_drewN | apply Kd.R_drew)); exact Kd.R_mono HO312.out (fun _ hk => trivial)⟩, ⟨by (with_reducible repeat (first | refine blk_drewN ?_ _ | refine blk_drew ?_ | refine blk_alloc ?_ _)); exact BK292.out⟩, ⟨by (with_reducible repeat (first | refine blk_drewN ?_ _ | refine blk_drew ?_ | refine blk_alloc ?_ _)); exact BK293.out⟩, ⟨by (with_reducible repeat (first | refine blk_drewN ?_ _ | refine blk_drew ?_ | refine blk_alloc ?_ _)); exact BK307.out⟩, ⟨by (with_reducible repeat (first | refine blk_drewN ?_ _ | refine blk_drew ?_ | refine blk_alloc ?_ _)); exact BK313.out⟩, ⟨by (with_reducible repeat (first | refine blk_drewN ?_ _ | refine blk_drew ?_ | refine blk_alloc ?_ _)); exact BK321.out⟩, ⟨by repeat (first | (with_reducible first | exact HB.out | apply below_alloc | apply pw_below_drewN | apply below_drew1 | refine below_set ?_ GE292.out | refine below_set ?_ GE293.out | refine below_set ?_ GE307.out | refine below_set ?_ GE313.out | refine below_set ?_ GE321.out) | exact HB.out)⟩⟩
   case rest =>
    clear HC16
    try clear c1
    try clear p2
    try clear c3
    try clear c5
    try clear c6
    try clear c18
    try clear c33
    try clear c34
    try clear c51
    try clear c52
    try clear c53
    try clear c54
    try clear c55
    try clear c57
    try clear c58
    try clear c59
    try clear c62
    try clear c63
    try clear c64
    try clear c65
    try clear c67
    try clear c68
    try clear c69
    try clear hcz56_0
    try clear hcz56_1
    try clear hcz56_2
    try clear hcz60_0
    try clear hcz60_1
    try clear hcz60_2
    try clear hcz66_0
    try clear hcz66_1
    try clear hcz66_2
    try clear hcz70_0
    try clear hcz70_1
    try clear hcz70_2
    try clear hfz56_0
    try clear hfz56_1
    try clear hfz56_2
    try clear hfz60_0
    try clear hfz60_1
    try clear hfz60_2
    try clear hfz66_0
    try clear hfz66_1
    try clear hfz66_2
    try clear hfz70_0
    try clear hfz70_1
    try clear hfz70_2
    obtain ⟨kq, x41_15, rfl, HA, HJ15, HO_314002, BK292, BK293, BK307, BK313, BK321, HB⟩ := hcut
    cases kq with
    | zero => exact absurd HA.out (by simp [laws_FnExactInverseMotion.j0])
    | succ kj15 =>
     have H := HA.out
     clear HA
     simp only [laws_FnExactInverseMotion.j0] at H
     by_cases c72 : x41_15 = true
     · subst c72
       have H1 : (some false) = some r := by rw [if_pos rfl] at H; exact H
       clear H
       have H := H1
       clear H1
       obtain rfl := Option.some.inj H
       go_wp2
       go_ret
       exact ⟨by first | rfl | (simp [errW_none, errW_some] <;> rfl) | (simp [*, errW_none, errW_some] <;> rfl), by repeat (first | (with_reducible first | exact HB.out | apply below_alloc | apply pw_below_drewN | apply below_drew1 | refine below_set ?_ GE292.out | refine below_set ?_ GE293.out | refine below_set ?_ GE307.out | refine below_set ?_ GE313.out | refine below_set ?_ GE321.out) | exact HB.out)⟩
     · replace c72 := Bool.eq_false_iff.mpr c72
       subst c72
       have H1 : ((laws_toTiling.f kj15 a0_0 a0_1 l0_2).bind fun bt323 => ((laws_eqTiling.f kj15 t308 t309 t310 bt323.1 bt323.2.1 bt323.2.2).bind fun t328 => (if t328 = true then (some true) else (some false)))) = some r := by rw [if_neg (show ¬ (false = true) by decide)] at H; exact H
       clear H
       have H := H1
       clear H1
       replace H := Option.bind_eq_some_iff.mp H
       obtain ⟨⟨t323, t324, t325⟩, A730, H⟩ := H
       replace H : ((laws_eqTiling.f kj15 t308 t309 t310 t323 t324 t325).bind fun t328 => (if t328 = true then (some true) else (some false))) = some r := H
       have A73 := mkA A730
       clear A730
       replace H := Option.bind_eq_some_iff.mp H
       obtain ⟨t328, A740, H⟩ := H
       replace H : (if t328 = true then (some true) else (some false)) = some r := H
       have A74 := mkA A740
       clear A740
       by_cases c75 : t328 = true
       · subst c75
         have H1 : (some true) = some r := by rw [if_pos rfl] at H; exact H
         clear H
         have H := H1
         clear H1
         obtain rfl := Option.some.inj H
         try go_wp2
         have n0_ := mkA (Kd.R_drew HO_314002.out)
         have n1_ := mkA (blk_drew BK292.out)
         have n2_ := mkA (blk_drew BK293.out)
         have n3_ := mkA (blk_drew BK307.out)
         have n4_ := mkA (blk_drew BK313.out)
         have n5_ := mkA (blk_drew BK321.out)
         have n6_ := mkA (below_drew1 HB.out)
         clear HO_314002
         clear BK292
         clear BK293
         clear BK307
         clear BK313
         clear BK321
         clear HB
         have HO_314002 := n0_
         have BK292 := n1_
         have BK293 := n2_
         have BK307 := n3_
         have BK313 := n4_
         have BK321 := n5_
         have HB := n6_
         clear n0_ n1_ n2_ n3_ n4_ n5_ n6_
         refine start_ (n := 5) (S := fun w' => w'.cell? ⟨gb313, 0, none⟩ = some (.int .i64 t308) ∧ w'.cell? ⟨gb313, 1, none⟩ = some (.int .i64 t309) ∧ w'.cell? ⟨gb313, 2, none⟩ = some (.slice Ao40 t310.length co40) ∧ w'.cell? ⟨gb292, 0, none⟩ = some (.int .i64 a0_0) ∧ w'.cell? ⟨gb292, 1, none⟩ = some (.int .i64 a0_1) ∧ w'.cell? ⟨gb292, 2, none⟩ = some (.slice A0_2 l0_2.length c0_2)) (ds := []) #[false, false, false, false, false] (by kernel_rfl) rfl rfl ⟨(blk_cell BK313.out 0).trans rfl, (blk_cell BK313.out 1).trans rfl, (blk_cell BK313.out 2).trans rfl, (blk_cell BK292.out 0).trans rfl, (blk_cell BK292.out 1).trans rfl, (blk_cell BK292.out 2).trans rfl⟩ (fun hHeld => ?_)
         generalize wc.drew = w76 at HO_314002 BK292 BK293 BK307 BK313 BK321 HB hHeld ⊢
         refine take_ (i := 0) (N := some 42) (v := ?_) (a' := ?_) #[true, false, false, false, false] rfl rfl (by kernel_rfl) (fun _ _ _ h => h) (Or.inl ⟨by rfl, ?_⟩) hHeld ?_ ?_
         rotate_left
         · rintro w' ⟨s0, s1, s2, s3, s4, s5⟩
           go_simp
           with_reducible rfl
         rotate_left
         · simp only [Act.put, sA, sB, sC, i64_w, i32_w]
           rfl
         refine take_ (i := 1) (N := some 43) (v := ?_) (a' := ?_) #[true, true, false, false, false] rfl rfl (by kernel_rfl) (fun _ _ _ h => h) (Or.inl ⟨by rfl, ?_⟩) hHeld ?_ ?_
         rotate_left
         · rintro w' ⟨s0, s1, s2, s3, s4, s5⟩
           go_simp
           with_reducible rfl
         rotate_left
         · simp only [Act.put, sA, sB, sC, i64_w, i32_w]
           rfl
         refine one_ (i := 2) (N := some 44) #[true, true, true, false, false] rfl rfl (by kernel_rfl) (by decide) (fun K hK => ?_)
         refine goes_ Try.func17 (by kernel_rfl) rfl #[.agg #[.int .i64 a0_0, .int .i64 a0_1, .slice A0_2 l0_2.length c0_2]] (by rfl) rfl rfl (by (try simp only [List.map_toArray, List.map_cons, List.map_nil]); first | done | rfl | (simp only [List.length_drop, List.length_take]; rfl)) ?_
         with_reducible refine (laws_toTiling.calls kj15 a0_0 a0_1 _ _ l0_2 t323 t324 t325 _ ?side1 ?side2 A73.out).mono ?_
         (case side1 => exact cb_ HR0_2.out HB.out)
         (case side2 => exact HC0_2.out)
         rintro e w77 ⟨v326, rfl, ho0, hb⟩
         refine ⟨_, rfl, ?_⟩
         have n0_ := mkA (Kd.R_elder' (by (with_reducible repeat (first | apply Kd.R_alloc | apply Kd.R_drewN | apply Kd.R_drew)); exact HO_314002.out) (Kd.R_base ho0) hb)
         have n1_ := mkA (Kd.R_lower (Kd.R_new' ho0 (Kd.R_lt (by (with_reducible repeat (first | apply Kd.R_alloc | apply Kd.R_drewN | apply Kd.R_drew)); exact HO_314002.out))) (below_size (bs5_ HB.out GE292.out GE293.out GE307.out GE313.out GE321.out)))
         have n2_ := mkA (blk_below (g := gb292) (o := .cells #[.int .i64 a0_0, .int .i64 a0_1, .slice A0_2 l0_2.length c0_2] 24 (0, 0)) (bl_ BK292.out) hb)
         have n3_ := mkA (blk_below (g := gb293) (o := .cells #[.int .i64 a1_0, .int .i64 a1_1, .int .i64 a1_2] 26 (0, 0)) (bl_ BK293.out) hb)
         have n4_ := mkA (blk_below (g := gb307) (o := .cells #[.int .i64 t303, .int .i64 t304, .int .i64 t305] 31 (0, 0)) (bl_ BK307.out) hb)
         have n5_ := mkA (blk_below (g := gb313) (o := .cells #[.int .i64 t308, .int .i64 t309, .slice Ao40 t310.length co40] 29 (0, 0)) (bl_ BK313.out) hb)
         have n6_ := mkA (blk_below (g := gb321) (o := .cells #[.int .i64 t317, .int .i64 t318, .int .i64 t319] 31 (0, 0)) (bl_ BK321.out) hb)
         have n7_ := mkA (below_step (bs5_ HB.out GE292.out GE293.out GE307.out GE313.out GE321.out) hb)
         clear HO_314002
         clear BK292
         clear BK293
         clear BK307
         clear BK313
         clear BK321
         clear HB
         have HO_314002 := n0_
         have HO327 := n1_
         have BK292 := n2_
         have BK293 := n3_
         have BK307 := n4_
         have BK313 := n5_
         have BK321 := n6_
         have HB := n7_
         clear n0_ n1_ n2_ n3_ n4_ n5_ n6_ n7_
         (try clear hb)
         (try clear hb2)
         (try clear hk)
         (try clear hi)
         (try clear ho0)
         obtain ⟨Ao78, co78, eo78⟩ := Kd.R_slice HO327.out
         (first | subst eo78 | (injection eo78 with f1_ f2_ f3_; have f4_ := f1_.symm; have f5_ := f3_.symm; clear f1_ f2_ f3_; subst f4_; subst f5_))
         refine hK.out _ _ ⟨(blk_cell BK313.out 0).trans rfl, (blk_cell BK313.out 1).trans rfl, (blk_cell BK313.out 2).trans rfl, (blk_cell BK292.out 0).trans rfl, (blk_cell BK292.out 1).trans rfl, (blk_cell BK292.out 2).trans rfl⟩ (fun hHeld => ?_)
         clear hK K
         refine norm_ (a' := ?_) ?_ ?_
         rotate_left
         · show Act.put _ (some 44) _ = _
           simp only [Act.put, sA, sB, sC, i64_w, i32_w]
           rfl
         refine one_ (i := 3) (N := some 45) #[true, true, true, true, false] rfl rfl (by kernel_rfl) (by decide) (fun K hK => ?_)
         refine goes_ Try.func20 (by kernel_rfl) rfl #[.agg #[.int .i64 t308, .int .i64 t309, .slice Ao40 t310.length co40], .agg #[.int .i64 t323, .int .i64 t324, .slice Ao78 t325.length co78]] (by rfl) rfl rfl (by (try simp only [List.map_toArray, List.map_cons, List.map_nil]); first | done | rfl | (simp only [List.length_drop, List.length_take]; rfl)) ?_
         with_reducible refine (laws_eqTiling.calls kj15 t308 t309 _ _ t310 t323 t324 _ _ t325 true _ ?side1 ?side2 ?side3 ?side4 A74.out).mono ?_
         (case side1 => repeat (first | exact (Kd.R_reads' HO_314002.out).2.2 | (with_reducible refine Kd.C_alloc ?_ _) | (with_reducible refine Kd.C_drewN ?_ _) | (with_reducible refine Kd.C_drew ?_)))
         (case side2 => exact (Kd.R_reads' HO_314002.out).2.1)
         (case side3 => repeat (first | exact (Kd.R_reads' HO327.out).2.2 | (with_reducible refine Kd.C_alloc ?_ _) | (with_reducible refine Kd.C_drewN ?_ _) | (with_reducible refine Kd.C_drew ?_)))
         (case side4 => exact (Kd.R_reads' HO327.out).2.1)
         rintro e w79 ⟨rfl, hb⟩
         refine ⟨_, rfl, ?_⟩
         have n0_ := mkA (Kd.R_below (by (with_reducible repeat (first | apply Kd.R_alloc | apply Kd.R_drewN | apply Kd.R_drew)); exact HO_314002.out) hb)
         have n1_ := mkA (Kd.R_below (by (with_reducible repeat (first | apply Kd.R_alloc | apply Kd.R_drewN | apply Kd.R_drew)); exact HO327.out) hb)
         have n2_ := mkA (blk_below (g := gb292) (o := .cells #[.int .i64 a0_0, .int .i64 a0_1, .slice A0_2 l0_2.length c0_2] 24 (0, 0)) (bl_ BK292.out) hb)
         have n3_ := mkA (blk_below (g := gb293) (o := .cells #[.int .i64 a1_0, .int .i64 a1_1, .int .i64 a1_2] 26 (0, 0)) (bl_ BK293.out) hb)
         have n4_ := mkA (blk_below (g := gb307) (o := .cells #[.int .i64 t303, .int .i64 t304, .int .i64 t305] 31 (0, 0)) (bl_ BK307.out) hb)
         have n5_ := mkA (blk_below (g := gb313) (o := .cells #[.int .i64 t308, .int .i64 t309, .slice Ao40 t310.length co40] 29 (0, 0)) (bl_ BK313.out) hb)
         have n6_ := mkA (blk_below (g := gb321) (o := .cells #[.int .i64 t317, .int .i64 t318, .int .i64 t319] 31 (0, 0)) (bl_ BK321.out) hb)
         have n7_ := mkA (below_step (bs5_ HB.out GE292.out GE293.out GE307.out GE313.out GE321.out) hb)
         clear HO_314002
         clear HO327
         clear BK292
         clear BK293
         clear BK307
         clear BK313
         clear BK321
         clear HB
         have HO_314002 := n0_
         have HO327 := n1_
         have BK292 := n2_
         have BK293 := n3_
         have BK307 := n4_
         have BK313 := n5_
         have BK321 := n6_
         have HB := n7_
         clear n0_ n1_ n2_ n3_ n4_ n5_ n6_ n7_
         (try clear hb)
         (try clear hb2)
         (try clear hk)
         (try clear hi)
         refine hK.out _ _ ⟨(blk_cell BK313.out 0).trans rfl, (blk_cell BK313.out 1).trans rfl, (blk_cell BK313.out 2).trans rfl, (blk_cell BK292.out 0).trans rfl, (blk_cell BK292.out 1).trans rfl, (blk_cell BK292.out 2).trans rfl⟩ (fun hHeld => ?_)
         clear hK K
         refine norm_ (a' := ?_) ?_ ?_
         rotate_left
         · show Act.put _ (some 45) _ = _
           simp only [Act.put, sA, sB, sC, i64_w, i32_w]
           rfl
         refine pure_ (i := 4) (N := some 46) (v := ?_) (a' := ?_) #[true, true, true, true, true] rfl rfl (by kernel_rfl) (fun _ _ _ h => h) (Or.inl ⟨by rfl, ?_⟩) ?_ ?_
         rotate_left
         · intro w'
           go_simp
           with_reducible rfl
         rotate_left
         · simp only [Act.put, sA, sB, sC, i64_w, i32_w]
           rfl
         refine done_ (by kernel_rfl) ?_
         try go_wp2
         go_ret
         exact ⟨by first | rfl | (simp [errW_none, errW_some] <;> rfl) | (simp [*, errW_none, errW_some] <;> rfl), by repeat (first | (with_reducible first | exact HB.out | apply below_alloc | apply pw_below_drewN | apply below_drew1 | refine below_set ?_ GE292.out | refine below_set ?_ GE293.out | refine below_set ?_ GE307.out | refine below_set ?_ GE313.out | refine below_set ?_ GE321.out) | exact HB.out)⟩
       · replace c75 := Bool.eq_false_iff.mpr c75
         subst c75
         have H1 : (some false) = some r := by rw [if_neg (show ¬ (false = true) by decide)] at H; exact H
         clear H
         have H := H1
         clear H1
         obtain rfl := Option.some.inj H
         try go_wp2
         have n0_ := mkA (Kd.R_drew HO_314002.out)
         have n1_ := mkA (blk_drew BK292.out)
         have n2_ := mkA (blk_drew BK293.out)
         have n3_ := mkA (blk_drew BK307.out)
         have n4_ := mkA (blk_drew BK313.out)
         have n5_ := mkA (blk_drew BK321.out)
         have n6_ := mkA (below_drew1 HB.out)
         clear HO_314002
         clear BK292
         clear BK293
         clear BK307
         clear BK313
         clear BK321
         clear HB
         have HO_314002 := n0_
         have BK292 := n1_
         have BK293 := n2_
         have BK307 := n3_
         have BK313 := n4_
         have BK321 := n5_
         have HB := n6_
         clear n0_ n1_ n2_ n3_ n4_ n5_ n6_
         refine start_ (n := 5) (S := fun w' => w'.cell? ⟨gb313, 0, none⟩ = some (.int .i64 t308) ∧ w'.cell? ⟨gb313, 1, none⟩ = some (.int .i64 t309) ∧ w'.cell? ⟨gb313, 2, none⟩ = some (.slice Ao40 t310.length co40) ∧ w'.cell? ⟨gb292, 0, none⟩ = some (.int .i64 a0_0) ∧ w'.cell? ⟨gb292, 1, none⟩ = some (.int .i64 a0_1) ∧ w'.cell? ⟨gb292, 2, none⟩ = some (.slice A0_2 l0_2.length c0_2)) (ds := []) #[false, false, false, false, false] (by kernel_rfl) rfl rfl ⟨(blk_cell BK313.out 0).trans rfl, (blk_cell BK313.out 1).trans rfl, (blk_cell BK313.out 2).trans rfl, (blk_cell BK292.out 0).trans rfl, (blk_cell BK292.out 1).trans rfl, (blk_cell BK292.out 2).trans rfl⟩ (fun hHeld => ?_)
         generalize wc.drew = w80 at HO_314002 BK292 BK293 BK307 BK313 BK321 HB hHeld ⊢
         refine take_ (i := 0) (N := some 42) (v := ?_) (a' := ?_) #[true, false, false, false, false] rfl rfl (by kernel_rfl) (fun _ _ _ h => h) (Or.inl ⟨by rfl, ?_⟩) hHeld ?_ ?_
         rotate_left
         · rintro w' ⟨s0, s1, s2, s3, s4, s5⟩
           go_simp
           with_reducible rfl
         rotate_left
         · simp only [Act.put, sA, sB, sC, i64_w, i32_w]
           rfl
         refine take_ (i := 1) (N := some 43) (v := ?_) (a' := ?_) #[true, true, false, false, false] rfl rfl (by kernel_rfl) (fun _ _ _ h => h) (Or.inl ⟨by rfl, ?_⟩) hHeld ?_ ?_
         rotate_left
         · rintro w' ⟨s0, s1, s2, s3, s4, s5⟩
           go_simp
           with_reducible rfl
         rotate_left
         · simp only [Act.put, sA, sB, sC, i64_w, i32_w]
           rfl
         refine one_ (i := 2) (N := some 44) #[true, true, true, false, false] rfl rfl (by kernel_rfl) (by decide) (fun K hK => ?_)
         refine goes_ Try.func17 (by kernel_rfl) rfl #[.agg #[.int .i64 a0_0, .int .i64 a0_1, .slice A0_2 l0_2.length c0_2]] (by rfl) rfl rfl (by (try simp only [List.map_toArray, List.map_cons, List.map_nil]); first | done | rfl | (simp only [List.length_drop, List.length_take]; rfl)) ?_
         with_reducible refine (laws_toTiling.calls kj15 a0_0 a0_1 _ _ l0_2 t323 t324 t325 _ ?side1 ?side2 A73.out).mono ?_
         (case side1 => exact cb_ HR0_2.out HB.out)
         (case side2 => exact HC0_2.out)
         rintro e w81 ⟨v326, rfl, ho0, hb⟩
         refine ⟨_, rfl, ?_⟩
         have n0_ := mkA (Kd.R_elder' (by (with_reducible repeat (first | apply Kd.R_alloc | apply Kd.R_drewN | apply Kd.R_drew)); exact HO_314002.out) (Kd.R_base ho0) hb)
         have n1_ := mkA (Kd.R_lower (Kd.R_new' ho0 (Kd.R_lt (by (with_reducible repeat (first | apply Kd.R_alloc | apply Kd.R_drewN | apply Kd.R_drew)); exact HO_314002.out))) (below_size (bs5_ HB.out GE292.out GE293.out GE307.out GE313.out GE321.out)))
         have n2_ := mkA (blk_below (g := gb292) (o := .cells #[.int .i64 a0_0, .int .i64 a0_1, .slice A0_2 l0_2.length c0_2] 24 (0, 0)) (bl_ BK292.out) hb)
         have n3_ := mkA (blk_below (g := gb293) (o := .cells #[.int .i64 a1_0, .int .i64 a1_1, .int .i64 a1_2] 26 (0, 0)) (bl_ BK293.out) hb)
         have n4_ := mkA (blk_below (g := gb307) (o := .cells #[.int .i64 t303, .int .i64 t304, .int .i64 t305] 31 (0, 0)) (bl_ BK307.out) hb)
         have n5_ := mkA (blk_below (g := gb313) (o := .cells #[.int .i64 t308, .int .i64 t309, .slice Ao40 t310.length co40] 29 (0, 0)) (bl_ BK313.out) hb)
         have n6_ := mkA (blk_below (g := gb321) (o := .cells #[.int .i64 t317, .int .i64 t318, .int .i64 t319] 31 (0, 0)) (bl_ BK321.out) hb)
         have n7_ := mkA (below_step (bs5_ HB.out GE292.out GE293.out GE307.out GE313.out GE321.out) hb)
         clear HO_314002
         clear BK292
         clear BK293
         clear BK307
         clear BK313
         clear BK321
         clear HB
         have HO_314002 := n0_
         have HO327 := n1_
         have BK292 := n2_
         have BK293 := n3_
         have BK307 := n4_
         have BK313 := n5_
         have BK321 := n6_
         have HB := n7_
         clear n0_ n1_ n2_ n3_ n4_ n5_ n6_ n7_
         (try clear hb)
         (try clear hb2)
         (try clear hk)
         (try clear hi)
         (try clear ho0)
         obtain ⟨Ao82, co82, eo82⟩ := Kd.R_slice HO327.out
         (first | subst eo82 | (injection eo82 with f1_ f2_ f3_; have f4_ := f1_.symm; have f5_ := f3_.symm; clear f1_ f2_ f3_; subst f4_; subst f5_))
         refine hK.out _ _ ⟨(blk_cell BK313.out 0).trans rfl, (blk_cell BK313.out 1).trans rfl, (blk_cell BK313.out 2).trans rfl, (blk_cell BK292.out 0).trans rfl, (blk_cell BK292.out 1).trans rfl, (blk_cell BK292.out 2).trans rfl⟩ (fun hHeld => ?_)
         clear hK K
         refine norm_ (a' := ?_) ?_ ?_
         rotate_left
         · show Act.put _ (some 44) _ = _
           simp only [Act.put, sA, sB, sC, i64_w, i32_w]
           rfl
         refine one_ (i := 3) (N := some 45) #[true, true, true, true, false] rfl rfl (by kernel_rfl) (by decide) (fun K hK => ?_)
         refine goes_ Try.func20 (by kernel_rfl) rfl #[.agg #[.int .i64 t308, .int .i64 t309, .slice Ao40 t310.length co40], .agg #[.int .i64 t323, .int .i64 t324, .slice Ao82 t325.length co82]] (by rfl) rfl rfl (by (try simp only [List.map_toArray, List.map_cons, List.map_nil]); first | done | rfl | (simp only [List.length_drop, List.length_take]; rfl)) ?_
         with_reducible refine (laws_eqTiling.calls kj15 t308 t309 _ _ t310 t323 t324 _ _ t325 false _ ?side1 ?side2 ?side3 ?side4 A74.out).mono ?_
         (case side1 => repeat (first | exact (Kd.R_reads' HO_314002.out).2.2 | (with_reducible refine Kd.C_alloc ?_ _) | (with_reducible refine Kd.C_drewN ?_ _) | (with_reducible refine Kd.C_drew ?_)))
         (case side2 => exact (Kd.R_reads' HO_314002.out).2.1)
         (case side3 => repeat (first | exact (Kd.R_reads' HO327.out).2.2 | (with_reducible refine Kd.C_alloc ?_ _) | (with_reducible refine Kd.C_drewN ?_ _) | (with_reducible refine Kd.C_drew ?_)))
         (case side4 => exact (Kd.R_reads' HO327.out).2.1)
         rintro e w83 ⟨rfl, hb⟩
         refine ⟨_, rfl, ?_⟩
         have n0_ := mkA (Kd.R_below (by (with_reducible repeat (first | apply Kd.R_alloc | apply Kd.R_drewN | apply Kd.R_drew)); exact HO_314002.out) hb)
         have n1_ := mkA (Kd.R_below (by (with_reducible repeat (first | apply Kd.R_alloc | apply Kd.R_drewN | apply Kd.R_drew)); exact HO327.out) hb)
         have n2_ := mkA (blk_below (g := gb292) (o := .cells #[.int .i64 a0_0, .int .i64 a0_1, .slice A0_2 l0_2.length c0_2] 24 (0, 0)) (bl_ BK292.out) hb)
         have n3_ := mkA (blk_below (g := gb293) (o := .cells #[.int .i64 a1_0, .int .i64 a1_1, .int .i64 a1_2] 26 (0, 0)) (bl_ BK293.out) hb)
         have n4_ := mkA (blk_below (g := gb307) (o := .cells #[.int .i64 t303, .int .i64 t304, .int .i64 t305] 31 (0, 0)) (bl_ BK307.out) hb)
         have n5_ := mkA (blk_below (g := gb313) (o := .cells #[.int .i64 t308, .int .i64 t309, .slice Ao40 t310.length co40] 29 (0, 0)) (bl_ BK313.out) hb)
         have n6_ := mkA (blk_below (g := gb321) (o := .cells #[.int .i64 t317, .int .i64 t318, .int .i64 t319] 31 (0, 0)) (bl_ BK321.out) hb)
         have n7_ := mkA (below_step (bs5_ HB.out GE292.out GE293.out GE307.out GE313.out GE321.out) hb)
         clear HO_314002
         clear HO327
         clear BK292
         clear BK293
         clear BK307
         clear BK313
         clear BK321
         clear HB
         have HO_314002 := n0_
         have HO327 := n1_
         have BK292 := n2_
         have BK293 := n3_
         have BK307 := n4_
         have BK313 := n5_
         have BK321 := n6_
         have HB := n7_
         clear n0_ n1_ n2_ n3_ n4_ n5_ n6_ n7_
         (try clear hb)
         (try clear hb2)
         (try clear hk)
         (try clear hi)
         refine hK.out _ _ ⟨(blk_cell BK313.out 0).trans rfl, (blk_cell BK313.out 1).trans rfl, (blk_cell BK313.out 2).trans rfl, (blk_cell BK292.out 0).trans rfl, (blk_cell BK292.out 1).trans rfl, (blk_cell BK292.out 2).trans rfl⟩ (fun hHeld => ?_)
         clear hK K
         refine norm_ (a' := ?_) ?_ ?_
         rotate_left
         · show Act.put _ (some 45) _ = _
           simp only [Act.put, sA, sB, sC, i64_w, i32_w]
           rfl
         refine pure_ (i := 4) (N := some 46) (v := ?_) (a' := ?_) #[true, true, true, true, true] rfl rfl (by kernel_rfl) (fun _ _ _ h => h) (Or.inl ⟨by rfl, ?_⟩) ?_ ?_
         rotate_left
         · intro w'
           go_simp
           with_reducible rfl
         rotate_left
         · simp only [Act.put, sA, sB, sC, i64_w, i32_w]
           rfl
         refine done_ (by kernel_rfl) ?_
         try go_wp2
         go_ret
         exact ⟨by first | rfl | (simp [errW_none, errW_some] <;> rfl) | (simp [*, errW_none, errW_some] <;> rfl), by repeat (first | (with_reducible first | exact HB.out | apply below_alloc | apply pw_below_drewN | apply below_drew1 | refine below_set ?_ GE292.out | refine below_set ?_ GE293.out | refine below_set ?_ GE307.out | refine below_set ?_ GE313.out | refine below_set ?_ GE321.out) | exact HB.out)⟩
def G24 (x : S24) : Prop := (Lit.int .i64 x.f0).wf = true ∧ (Lit.int .i64 x.f1).wf = true ∧ (x.f2.length ≤ maxLen ∧ ∀ y0 ∈ x.f2, (Lit.int .i64 y0).wf = true)
def G26 (x : S26) : Prop := (Lit.int .i64 x.f0).wf = true ∧ (Lit.int .i64 x.f1).wf = true ∧ (Lit.int .i64 x.f2).wf = true

/-- THE ONE PURE STATEMENT of laws_FnExactInverseMotion. -/
def laws_FnExactInverseMotion.Pure : Prop := ∀ (a0_0 : Int) (a0_1 : Int) (l0_2 : List Int) (a1_0 : Int) (a1_1 : Int) (a1_2 : Int), G24 (⟨a0_0, a0_1, l0_2⟩ : S24) → G26 (⟨a1_0, a1_1, a1_2⟩ : S26) → ∃ k, laws_FnExactInverseMotion.f k a0_0 a0_1 l0_2 a1_0 a1_1 a1_2 = some true

end Go.Proofs.Ytnidibnhojedoaa.GFnExactInverseMotion
