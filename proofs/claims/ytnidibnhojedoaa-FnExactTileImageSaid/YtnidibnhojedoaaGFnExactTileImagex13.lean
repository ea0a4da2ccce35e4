-- Written by the session's own program (gen.py) out of the translation's print. Lean checks it.
import Derived.Test.YtnidibnhojedoaaGFnExactTileImagex0
import Derived.Test.YtnidibnhojedoaaGFnExactTileImagex1
import Derived.Test.YtnidibnhojedoaaGFnExactTileImagex7
import Derived.Test.YtnidibnhojedoaaGFnExactTileImagex12
namespace Go.Proofs.Ytnidibnhojedoaa.GFnExactTileImage
open Go.RowKit Go.Proofs.YtnidibnhojedoaaW.PrintWords Go.Proofs.YtnidibnhojedoaaW.PrintLast Go.Proofs.YtnidibnhojedoaaW.PrintMore
attribute [local go_sem] max2_int min2_int max_two min_two max_three min_three max_four min_four   -- for this text's walks alone
set_option linter.unusedVariables false
set_option linter.unusedSimpArgs false

/-! ### laws_FnExactTileImage: function 10 -/
def laws_FnExactTileImage.j0 : Nat → Bool → Int → Int → List Int → Int → Int → List Int → Option (Bool)
  | 0, _, _, _, _, _, _, _ => none
  | k + 1, x44, x358000, x358001, x358002, x376000, x376001, x376002 => if x44 = true then (some false) else ((laws_toTiling.f k x358000 x358001 x358002).bind fun bt381 => ((laws_eqTiling.f k x376000 x376001 x376002 bt381.1 bt381.2.1 bt381.2.2).bind fun t386 => (if t386 = true then (some true) else (some false))))
def laws_FnExactTileImage.f (k : Nat) (a0_0 : Int) (a0_1 : Int) (l0_2 : List Int) (a1_0 : Int) (a1_1 : Int) (a1_2 : Int) (a2 : Int) : Option (Bool) := (laws_szTiling.f a0_0 a0_1 l0_2 1048576).bind fun t359 => (if t359 < 0 then (some true) else ((laws_toTiling.f k a0_0 a0_1 l0_2).bind fun bt360 => ((laws_toMotion.f a1_0 a1_1 a1_2).bind fun bt365 => ((spec_TileImage.f k bt360.1 bt360.2.1 bt360.2.2 bt365.1 bt365.2.1 bt365.2.2 a2).bind fun bt368 => ((laws_toTiling.f k a0_0 a0_1 l0_2).bind fun bt370 => ((laws_toMotion.f a1_0 a1_1 a1_2).bind fun bt376 => ((impl_TileImage.f k bt370.1 bt370.2.1 bt370.2.2 bt376.1 bt376.2.1 bt376.2.2 a2).bind fun bt379 => (if bt379.1 = bt368.1 then (laws_FnExactTileImage.j0 k (bt379.2 != bt368.2) a0_0 a0_1 l0_2 bt370.1 bt370.2.1 bt370.2.2) else (laws_FnExactTileImage.j0 k true a0_0 a0_1 l0_2 bt370.1 bt370.2.1 bt370.2.2)))))))))
theorem laws_FnExactTileImage.mono_l : ∀ k, (∀ y0 y1 y2 y3 y4 y5 y6, LeO (laws_FnExactTileImage.j0 k y0 y1 y2 y3 y4 y5 y6) (laws_FnExactTileImage.j0 (k + 1) y0 y1 y2 y3 y4 y5 y6))
  | 0 => fun _ _ _ _ _ _ _ r h => by simp [laws_FnExactTileImage.j0] at h
  | k + 1 => by
    have ih0 := laws_FnExactTileImage.mono_l k
    · intro y0 y1 y2 y3 y4 y5 y6
      unfold laws_FnExactTileImage.j0
      repeat' first
      | (with_reducible exact ih0 _ _ _ _ _ _ _)
      | (with_reducible exact impl_TileImage.mono _ _ _ _ _ _ _ _)
      | (with_reducible exact laws_eqTiling.mono _ _ _ _ _ _ _)
      | (with_reducible exact laws_toTiling.mono _ _ _ _)
      | (with_reducible exact spec_TileImage.mono _ _ _ _ _ _ _ _)
      | (with_reducible exact LeO.refl _)
      | (with_reducible exact LeO.none _)
      | (with_reducible refine LeO.ite ?_ ?_)
      | (with_reducible refine LeO.bind ?_ (fun _ => ?_))
      | exact ih0 _ _ _ _ _ _ _
      | exact impl_TileImage.mono _ _ _ _ _ _ _ _
      | exact laws_eqTiling.mono _ _ _ _ _ _ _
      | exact laws_toTiling.mono _ _ _ _
      | exact spec_TileImage.mono _ _ _ _ _ _ _ _
      | exact LeO.none _
      | refine LeO.ite ?_ ?_
      | refine LeO.bind ?_ (fun _ => ?_)
theorem laws_FnExactTileImage.mono : ∀ a0 a1 a2 a3 a4 a5 a6 k, LeO (laws_FnExactTileImage.f k a0 a1 a2 a3 a4 a5 a6) (laws_FnExactTileImage.f (k + 1) a0 a1 a2 a3 a4 a5 a6) := by
  intro a0 a1 a2 a3 a4 a5 a6 k
  have ih0 := laws_FnExactTileImage.mono_l k
  unfold laws_FnExactTileImage.f
  repeat' first
      | (with_reducible exact ih0 _ _ _ _ _ _ _)
      | (with_reducible exact impl_TileImage.mono _ _ _ _ _ _ _ _)
      | (with_reducible exact laws_eqTiling.mono _ _ _ _ _ _ _)
      | (with_reducible exact laws_toTiling.mono _ _ _ _)
      | (with_reducible exact spec_TileImage.mono _ _ _ _ _ _ _ _)
      | (with_reducible exact LeO.refl _)
      | (with_reducible exact LeO.none _)
      | (with_reducible refine LeO.ite ?_ ?_)
      | (with_reducible refine LeO.bind ?_ (fun _ => ?_))
      | exact ih0 _ _ _ _ _ _ _
      | exact impl_TileImage.mono _ _ _ _ _ _ _ _
      | exact laws_eqTiling.mono _ _ _ _ _ _ _
      | exact laws_toTiling.mono _ _ _ _
      | exact spec_TileImage.mono _ _ _ _ _ _ _ _
      | exact LeO.none _
      | refine LeO.ite ?_ ?_
      | refine LeO.bind ?_ (fun _ => ?_)
def laws_FnExactTileImage.T5 : Bool × List (List Nat × List Nat) := (true, [([], []), ([0], [0]), ([], []), ([2, 1], [2]), ([], []), ([1, 3, 4, 3], [1, 3, 4]), ([5], [5]), ([6], [6]), ([6], [6]), ([7, 5, 0, 1, 2, 3, 4, 5, 6, 7], [7]), ([8, 9, 0, 1, 2, 3, 4, 5, 6, 7, 8, 9], [8])])
def laws_FnExactTileImage.B5 : List Nat := [0, 1, 0, 7, 0, 31, 63, 127, 127, 255, 1023]
theorem laws_FnExactTileImage.tab5 : rtab .any (opsOf Try.f10 5) = laws_FnExactTileImage.T5 := by kernel_rfl
theorem laws_FnExactTileImage.bits5 : waitsOk laws_FnExactTileImage.T5.2 laws_FnExactTileImage.B5 = true := by kernel_rfl
def laws_FnExactTileImage.T7 : Bool × List (List Nat × List Nat) := (true, [([], []), ([], []), ([1], [1]), ([], []), ([0, 2, 3, 2], [0, 2, 3]), ([4], [4]), ([5], [5]), ([5], [5]), ([6, 4, 0, 1, 2, 3, 4, 5, 6], [6]), ([7, 8, 0, 1, 2, 3, 4, 5, 6, 7, 8], [7])])
def laws_FnExactTileImage.B7 : List Nat := [0, 0, 2, 0, 15, 31, 63, 63, 127, 511]
theorem laws_FnExactTileImage.tab7 : rtab .any (opsOf Try.f10 7) = laws_FnExactTileImage.T7 := by kernel_rfl
theorem laws_FnExactTileImage.bits7 : waitsOk laws_FnExactTileImage.T7.2 laws_FnExactTileImage.B7 = true := by kernel_rfl
open List renaming setIfInBounds_toArray → sA, set_cons_zero → sB, set_cons_succ → sC
open Go.Proofs.YtnidibnhojedoaaW.PrintWords.Aside0 renaming mk → mkA
open Go.Proofs.YtnidibnhojedoaaX (dt_ bc_ p0_ p1_ bl_ cb_ bs0_ bs1_ bs2_ bs3_ bs4_ bs5_ bs6_ bs7_ bs8_ bs9_ bs10_ bs11_ bs12_)
abbrev laws_FnExactTileImage.d0 : Array Bool := #[false, false, false, false, false, false, false, false, false, false, false]
abbrev laws_FnExactTileImage.d1 : Array Bool := #[false, false, false, false, true, false, false, false, false, false, false]
abbrev laws_FnExactTileImage.d2 : Array Bool := #[true, false, false, false, true, false, false, false, false, false, false]
abbrev laws_FnExactTileImage.d3 : Array Bool := #[true, false, true, false, true, false, false, false, false, false, false]
abbrev laws_FnExactTileImage.d4 : Array Bool := #[true, true, true, false, true, false, false, false, false, false, false]
abbrev laws_FnExactTileImage.d5 : Array Bool := #[true, true, true, true, true, false, false, false, false, false, false]
abbrev laws_FnExactTileImage.d6 : Array Bool := #[true, true, true, true, true, true, false, false, false, false, false]
abbrev laws_FnExactTileImage.d7 : Array Bool := #[true, true, true, true, true, true, true, false, false, false, false]
abbrev laws_FnExactTileImage.d8 : Array Bool := #[true, true, true, true, true, true, true, true, false, false, false]
abbrev laws_FnExactTileImage.d9 : Array Bool := #[true, true, true, true, true, true, true, true, true, false, false]
abbrev laws_FnExactTileImage.d10 : Array Bool := #[true, true, true, true, true, true, true, true, true, true, false]
abbrev laws_FnExactTileImage.d11 : Array Bool := #[true, true, true, true, true, true, true, true, true, true, true]
abbrev laws_FnExactTileImage.d12 : Array Bool := #[false, false, false, false, false, false, false, false, false, false]
abbrev laws_FnExactTileImage.d13 : Array Bool := #[false, false, false, true, false, false, false, false, false, false]
abbrev laws_FnExactTileImage.d14 : Array Bool := #[true, false, false, true, false, false, false, false, false, false]
abbrev laws_FnExactTileImage.d15 : Array Bool := #[true, true, false, true, false, false, false, false, false, false]
abbrev laws_FnExactTileImage.d16 : Array Bool := #[true, true, true, true, false, false, false, false, false, false]
abbrev laws_FnExactTileImage.d17 : Array Bool := #[true, true, true, true, true, false, false, false, false, false]
abbrev laws_FnExactTileImage.d18 : Array Bool := #[true, true, true, true, true, true, false, false, false, false]
abbrev laws_FnExactTileImage.d19 : Array Bool := #[true, true, true, true, true, true, true, false, false, false]
abbrev laws_FnExactTileImage.d20 : Array Bool := #[true, true, true, true, true, true, true, true, false, false]
abbrev laws_FnExactTileImage.d21 : Array Bool := #[true, true, true, true, true, true, true, true, true, false]
abbrev laws_FnExactTileImage.d22 : Array Bool := #[true, true, true, true, true, true, true, true, true, true]
set_option maxHeartbeats 8000000 in
set_option maxRecDepth 100000 in
theorem laws_FnExactTileImage.calls (k : Nat) (a0_0 : Int) (a0_1 : Int) (A0_2 : Option Addr) (c0_2 : Nat) (l0_2 : List Int) (a1_0 : Int) (a1_1 : Int) (a1_2 : Int) (a2 : Int) (r : Bool) (w : World) (hr0_2 : Kd.C (Kd.int .i64) w A0_2 l0_2.length l0_2) (hc0_2 : l0_2.length ≤ c0_2) (h : laws_FnExactTileImage.f k a0_0 a0_1 l0_2 a1_0 a1_1 a1_2 a2 = some r) :
 Calls Try.prog 10 #[.agg #[.int .i64 a0_0, .int .i64 a0_1, .slice A0_2 l0_2.length c0_2], .agg #[.int .i64 a1_0, .int .i64 a1_1, .int .i64 a1_2], .int .i64 a2] w fun e w' => e = .returned (.bool r) ∧ Below w.heap.size w w' := by
 have hu24 := Try.underlying24
 have hu26 := Try.underlying26
 have hu29 := Try.underlying29
 have HR0_2 := mkA hr0_2
 have HC0_2 := mkA hc0_2
 clear hr0_2 hc0_2
 have HB := mkA (Below.refl w.heap.size w)
 have H : ((laws_szTiling.f a0_0 a0_1 l0_2 1048576).bind fun t359 => (if t359 < 0 then (some true) else ((laws_toTiling.f k a0_0 a0_1 l0_2).bind fun bt360 => ((laws_toMotion.f a1_0 a1_1 a1_2).bind fun bt365 => ((spec_TileImage.f k bt360.1 bt360.2.1 bt360.2.2 bt365.1 bt365.2.1 bt365.2.2 a2).bind fun bt368 => ((laws_toTiling.f k a0_0 a0_1 l0_2).bind fun bt370 => ((laws_toMotion.f a1_0 a1_1 a1_2).bind fun bt376 => ((impl_TileImage.f k bt370.1 bt370.2.1 bt370.2.2 bt376.1 bt376.2.1 bt376.2.2 a2).bind fun bt379 => (if bt379.1 = bt368.1 then (laws_FnExactTileImage.j0 k (bt379.2 != bt368.2) a0_0 a0_1 l0_2 bt370.1 bt370.2.1 bt370.2.2) else (laws_FnExactTileImage.j0 k true a0_0 a0_1 l0_2 bt370.1 bt370.2.1 bt370.2.2)))))))))) = some r := h
 clear h
 replace H := Option.bind_eq_some_iff.mp H
 obtain ⟨t359, A40, H⟩ := H
 replace H : (if t359 < 0 then (some true) else ((laws_toTiling.f k a0_0 a0_1 l0_2).bind fun bt360 => ((laws_toMotion.f a1_0 a1_1 a1_2).bind fun bt365 => ((spec_TileImage.f k bt360.1 bt360.2.1 bt360.2.2 bt365.1 bt365.2.1 bt365.2.2 a2).bind fun bt368 => ((laws_toTiling.f k a0_0 a0_1 l0_2).bind fun bt370 => ((laws_toMotion.f a1_0 a1_1 a1_2).bind fun bt376 => ((impl_TileImage.f k bt370.1 bt370.2.1 bt370.2.2 bt376.1 bt376.2.1 bt376.2.2 a2).bind fun bt379 => (if bt379.1 = bt368.1 then (laws_FnExactTileImage.j0 k (bt379.2 != bt368.2) a0_0 a0_1 l0_2 bt370.1 bt370.2.1 bt370.2.2) else (laws_FnExactTileImage.j0 k true a0_0 a0_1 l0_2 bt370.1 bt370.2.1 bt370.2.2))))))))) = some r := H
 have A4 := mkA A40
 clear A40
 by_cases c5 : t359 < 0
 · rw [if_pos c5] at H
   have c5b0 : decide (t359 < 0) = true := decide_eq_true c5
   clear c5
   obtain rfl := Option.some.inj H
   go_enter Try.func10, Try.ntmps10
   go_wp2_with (first | ((with_reducible refine gate_dst (N := 3) rfl ?_); refine box_event ?hg (N := 3) ?hd (cs := #[.int .i64 a0_0, .int .i64 a0_1, .slice A0_2 l0_2.length c0_2]) (t := 24) ?hr ?_; (case hd => rfl); (case hg => rfl); (case hr => first | (go_simp; done) | (go_simp; rfl)); intro gb357 hg w6 hbox hb; have n0_ := mkA (below_step (bs0_ HB.out) hb); have n1_ := mkA (hbox); have n2_ := mkA ((by rw [hg]; exact (below_size (bs0_ HB.out)) : w.heap.size ≤ gb357)); have n3_ := mkA ((by rw [hg]; exact (below_size (bs0_ HB.out)) : w.heap.size ≤ gb357)); clear HB; have HB := n0_; have BK357 := n1_; have GW357 := n2_; have GE357 := n3_; clear n0_ n1_ n2_ n3_; clear hb hbox hg) | ((with_reducible refine gate_dst (N := 4) rfl ?_); refine box_event ?hg (N := 4) ?hd (cs := #[.int .i64 a1_0, .int .i64 a1_1, .int .i64 a1_2]) (t := 26) ?hr ?_; (case hd => rfl); (case hg => rfl); (case hr => first | (go_simp; done) | (go_simp; rfl)); intro gb358 hg w7 hbox hb; have n0_ := mkA (blk_below (g := gb357) (o := .cells #[.int .i64 a0_0, .int .i64 a0_1, .slice A0_2 l0_2.length c0_2] 24 (0, 0)) (bl_ BK357.out) hb); have n1_ := mkA (below_step (bs1_ HB.out GE357.out) hb); have n2_ := mkA (hbox); have n3_ := mkA ((by rw [hg]; exact (below_size (bs1_ HB.out GE357.out)) : w.heap.size ≤ gb358)); have n4_ := mkA ((by rw [hg]; exact (below_size (bs1_ HB.out GE357.out)) : w.heap.size ≤ gb358)); have n5_ := mkA ((by rw [hg]; exact Nat.ne_of_lt (blk_lt (g := gb357) (o := .cells #[.int .i64 a0_0, .int .i64 a0_1, .slice A0_2 l0_2.length c0_2] 24 (0, 0)) (bl_ BK357.out)) : gb357 ≠ gb358)); have n6_ := mkA ((by rw [hg]; exact Nat.ne_of_gt (blk_lt (g := gb357) (o := .cells #[.int .i64 a0_0, .int .i64 a0_1, .slice A0_2 l0_2.length c0_2] 24 (0, 0)) (bl_ BK357.out)) : gb358 ≠ gb357)); clear BK357; clear HB; have BK357 := n0_; have HB := n1_; have BK358 := n2_; have GW358 := n3_; have GE358 := n4_; have NB357_358 := n5_; have NB358_357 := n6_; clear n0_ n1_ n2_ n3_ n4_ n5_ n6_; clear hb hbox hg; have hnb8 := NB357_358.out; have hnc8 := NB358_357.out; have hcz9_0 : w7.cell? ⟨gb357, 0, none⟩ = some (.int .i64 a0_0) := (blk_cell BK357.out 0).trans rfl; have hcz9_1 : w7.cell? ⟨gb357, 1, none⟩ = some (.int .i64 a0_1) := (blk_cell BK357.out 1).trans rfl; have hcz9_2 : w7.cell? ⟨gb357, 2, none⟩ = some (.slice A0_2 l0_2.length c0_2) := (blk_cell BK357.out 2).trans rfl; have hfz9_0 := blk_frozen BK357.out 0; have hfz9_1 := blk_frozen BK357.out 1; have hfz9_2 := blk_frozen BK357.out 2) | ((with_reducible refine gate_callee (f := 15) rfl ?_); refine goesL_ (some 15) rfl rfl Try.func15 (by kernel_rfl) rfl #[.agg #[.int .i64 a0_0, .int .i64 a0_1, .slice A0_2 l0_2.length c0_2], .int .i64 1048576] rfl (by (try simp only [List.map_toArray, List.map_cons, List.map_nil]); first | done | rfl | (simp only [List.length_drop, List.length_take]; rfl)) ?_; (with_reducible refine (laws_szTiling.calls a0_0 a0_1 _ _ l0_2 1048576 t359 _ ?side1 ?side2 A4.out).mono ?_); (case side1 => exact cb_ HR0_2.out HB.out); (case side2 => exact HC0_2.out); rintro e w10 ⟨rfl, hb⟩; refine ⟨_, rfl, ?_⟩; have n0_ := mkA (blk_below (g := gb357) (o := .cells #[.int .i64 a0_0, .int .i64 a0_1, .slice A0_2 l0_2.length c0_2] 24 (0, 0)) (bl_ BK357.out) hb); have n1_ := mkA (blk_below (g := gb358) (o := .cells #[.int .i64 a1_0, .int .i64 a1_1, .int .i64 a1_2] 26 (0, 0)) (bl_ BK358.out) hb); have n2_ := mkA (below_step (bs2_ HB.out GE357.out GE358.out) hb); clear BK357; clear BK358; clear HB; have BK357 := n0_; have BK358 := n1_; have HB := n2_; clear n0_ n1_ n2_; (try clear hb); (try clear hb2); (try clear hk); (try clear hi)))
   go_ret
   exact ⟨by first | rfl | (simp [errW_none, errW_some] <;> rfl) | (simp [*, errW_none, errW_some] <;> rfl), by repeat (first | (with_reducible first | exact HB.out | apply below_alloc | apply pw_below_drewN | apply below_drew1 | refine below_set ?_ GE357.out | refine below_set ?_ GE358.out) | exact HB.out)⟩
 · rw [if_neg c5] at H
   have c5b0 : decide (t359 < 0) = false := decide_eq_false c5
   clear c5
   replace H := Option.bind_eq_some_iff.mp H
   obtain ⟨⟨t360, t361, t362⟩, A110, H⟩ := H
   replace H : ((laws_toMotion.f a1_0 a1_1 a1_2).bind fun bt365 => ((spec_TileImage.f k t360 t361 t362 bt365.1 bt365.2.1 bt365.2.2 a2).bind fun bt368 => ((laws_toTiling.f k a0_0 a0_1 l0_2).bind fun bt370 => ((laws_toMotion.f a1_0 a1_1 a1_2).bind fun bt376 => ((impl_TileImage.f k bt370.1 bt370.2.1 bt370.2.2 bt376.1 bt376.2.1 bt376.2.2 a2).bind fun bt379 => (if bt379.1 = bt368.1 then (laws_FnExactTileImage.j0 k (bt379.2 != bt368.2) a0_0 a0_1 l0_2 bt370.1 bt370.2.1 bt370.2.2) else (laws_FnExactTileImage.j0 k true a0_0 a0_1 l0_2 bt370.1 bt370.2.1 bt370.2.2))))))) = some r := H
   have A11 := mkA A110
   clear A110
   replace H := Option.bind_eq_some_iff.mp H
   obtain ⟨⟨t365, t366, t367⟩, A120, H⟩ := H
   replace H : ((spec_TileImage.f k t360 t361 t362 t365 t366 t367 a2).bind fun bt368 => ((laws_toTiling.f k a0_0 a0_1 l0_2).bind fun bt370 => ((laws_toMotion.f a1_0 a1_1 a1_2).bind fun bt376 => ((impl_TileImage.f k bt370.1 bt370.2.1 bt370.2.2 bt376.1 bt376.2.1 bt376.2.2 a2).bind fun bt379 => (if bt379.1 = bt368.1 then (laws_FnExactTileImage.j0 k (bt379.2 != bt368.2) a0_0 a0_1 l0_2 bt370.1 bt370.2.1 bt370.2.2) else (laws_FnExactTileImage.j0 k true a0_0 a0_1 l0_2 bt370.1 bt370.2.1 bt370.2.2)))))) = some r := H
   have A12 := mkA A120
   clear A120
   replace H := Option.bind_eq_some_iff.mp H
   obtain ⟨⟨t368, t369⟩, A130, H⟩ := H
   replace H : ((laws_toTiling.f k a0_0 a0_1 l0_2).bind fun bt370 => ((laws_toMotion.f a1_0 a1_1 a1_2).bind fun bt376 => ((impl_TileImage.f k bt370.1 bt370.2.1 bt370.2.2 bt376.1 bt376.2.1 bt376.2.2 a2).bind fun bt379 => (if bt379.1 = t368 then (laws_FnExactTileImage.j0 k (bt379.2 != t369) a0_0 a0_1 l0_2 bt370.1 bt370.2.1 bt370.2.2) else (laws_FnExactTileImage.j0 k true a0_0 a0_1 l0_2 bt370.1 bt370.2.1 bt370.2.2))))) = some r := H
   have A13 := mkA A130
   clear A130
   replace H := Option.bind_eq_some_iff.mp H
   obtain ⟨⟨t370, t371, t372⟩, A140, H⟩ := H
   replace H : ((laws_toMotion.f a1_0 a1_1 a1_2).bind fun bt376 => ((impl_TileImage.f k t370 t371 t372 bt376.1 bt376.2.1 bt376.2.2 a2).bind fun bt379 => (if bt379.1 = t368 then (laws_FnExactTileImage.j0 k (bt379.2 != t369) a0_0 a0_1 l0_2 t370 t371 t372) else (laws_FnExactTileImage.j0 k true a0_0 a0_1 l0_2 t370 t371 t372)))) = some r := H
   have A14 := mkA A140
   clear A140
   replace H := Option.bind_eq_some_iff.mp H
   obtain ⟨⟨t376, t377, t378⟩, A150, H⟩ := H
   replace H : ((impl_TileImage.f k t370 t371 t372 t376 t377 t378 a2).bind fun bt379 => (if bt379.1 = t368 then (laws_FnExactTileImage.j0 k (bt379.2 != t369) a0_0 a0_1 l0_2 t370 t371 t372) else (laws_FnExactTileImage.j0 k true a0_0 a0_1 l0_2 t370 t371 t372))) = some r := H
   have A15 := mkA A150
   clear A150
   replace H := Option.bind_eq_some_iff.mp H
   obtain ⟨⟨t379, t380⟩, A160, H⟩ := H
   replace H : (if t379 = t368 then (laws_FnExactTileImage.j0 k (t380 != t369) a0_0 a0_1 l0_2 t370 t371 t372) else (laws_FnExactTileImage.j0 k true a0_0 a0_1 l0_2 t370 t371 t372)) = some r := H
   have A16 := mkA A160
   clear A160
   have HC17 := mkA H
   clear H
   go_enter Try.func10, Try.ntmps10
   try go_wp2_with (first | ((with_reducible refine gate_dst (N := 3) rfl ?_); refine box_event ?hg (N := 3) ?hd (cs := #[.int .i64 a0_0, .int .i64 a0_1, .slice A0_2 l0_2.length c0_2]) (t := 24) ?hr ?_; (case hd => rfl); (case hg => rfl); (case hr => first | (go_simp; done) | (go_simp; rfl)); intro gb357 hg w18 hbox hb; have n0_ := mkA (below_step (bs0_ HB.out) hb); have n1_ := mkA (hbox); have n2_ := mkA ((by rw [hg]; exact (below_size (bs0_ HB.out)) : w.heap.size ≤ gb357)); have n3_ := mkA ((by rw [hg]; exact (below_size (bs0_ HB.out)) : w.heap.size ≤ gb357)); clear HB; have HB := n0_; have BK357 := n1_; have GW357 := n2_; have GE357 := n3_; clear n0_ n1_ n2_ n3_; clear hb hbox hg) | ((with_reducible refine gate_dst (N := 4) rfl ?_); refine box_event ?hg (N := 4) ?hd (cs := #[.int .i64 a1_0, .int .i64 a1_1, .int .i64 a1_2]) (t := 26) ?hr ?_; (case hd => rfl); (case hg => rfl); (case hr => first | (go_simp; done) | (go_simp; rfl)); intro gb358 hg w19 hbox hb; have n0_ := mkA (blk_below (g := gb357) (o := .cells #[.int .i64 a0_0, .int .i64 a0_1, .slice A0_2 l0_2.length c0_2] 24 (0, 0)) (bl_ BK357.out) hb); have n1_ := mkA (below_step (bs1_ HB.out GE357.out) hb); have n2_ := mkA (hbox); have n3_ := mkA ((by rw [hg]; exact (below_size (bs1_ HB.out GE357.out)) : w.heap.size ≤ gb358)); have n4_ := mkA ((by rw [hg]; exact (below_size (bs1_ HB.out GE357.out)) : w.heap.size ≤ gb358)); have n5_ := mkA ((by rw [hg]; exact Nat.ne_of_lt (blk_lt (g := gb357) (o := .cells #[.int .i64 a0_0, .int .i64 a0_1, .slice A0_2 l0_2.length c0_2] 24 (0, 0)) (bl_ BK357.out)) : gb357 ≠ gb358)); have n6_ := mkA ((by rw [hg]; exact Nat.ne_of_gt (blk_lt (g := gb357) (o := .cells #[.int .i64 a0_0, .int .i64 a0_1, .slice A0_2 l0_2.length c0_2] 24 (0, 0)) (bl_ BK357.out)) : gb358 ≠ gb357)); clear BK357; clear HB; have BK357 := n0_; have HB := n1_; have BK358 := n2_; have GW358 := n3_; have GE358 := n4_; have NB357_358 := n5_; have NB358_357 := n6_; clear n0_ n1_ n2_ n3_ n4_ n5_ n6_; clear hb hbox hg; have hnb20 := NB357_358.out; have hnc20 := NB358_357.out; have hcz21_0 : w19.cell? ⟨gb357, 0, none⟩ = some (.int .i64 a0_0) := (blk_cell BK357.out 0).trans rfl; have hcz21_1 : w19.cell? ⟨gb357, 1, none⟩ = some (.int .i64 a0_1) := (blk_cell BK357.out 1).trans rfl; have hcz21_2 : w19.cell? ⟨gb357, 2, none⟩ = some (.slice A0_2 l0_2.length c0_2) := (blk_cell BK357.out 2).trans rfl; have hfz21_0 := blk_frozen BK357.out 0; have hfz21_1 := blk_frozen BK357.out 1; have hfz21_2 := blk_frozen BK357.out 2) | ((with_reducible refine gate_callee (f := 15) rfl ?_); refine goesL_ (some 15) rfl rfl Try.func15 (by kernel_rfl) rfl #[.agg #[.int .i64 a0_0, .int .i64 a0_1, .slice A0_2 l0_2.length c0_2], .int .i64 1048576] rfl (by (try simp only [List.map_toArray, List.map_cons, List.map_nil]); first | done | rfl | (simp only [List.length_drop, List.length_take]; rfl)) ?_; (with_reducible refine (laws_szTiling.calls a0_0 a0_1 _ _ l0_2 1048576 t359 _ ?side1 ?side2 A4.out).mono ?_); (case side1 => exact cb_ HR0_2.out HB.out); (case side2 => exact HC0_2.out); rintro e w22 ⟨rfl, hb⟩; refine ⟨_, rfl, ?_⟩; have n0_ := mkA (blk_below (g := gb357) (o := .cells #[.int .i64 a0_0, .int .i64 a0_1, .slice A0_2 l0_2.length c0_2] 24 (0, 0)) (bl_ BK357.out) hb); have n1_ := mkA (blk_below (g := gb358) (o := .cells #[.int .i64 a1_0, .int .i64 a1_1, .int .i64 a1_2] 26 (0, 0)) (bl_ BK358.out) hb); have n2_ := mkA (below_step (bs2_ HB.out GE357.out GE358.out) hb); clear BK357; clear BK358; clear HB; have BK357 := n0_; have BK358 := n1_; have HB := n2_; clear n0_ n1_ n2_; (try clear hb); (try clear hb2); (try clear hk); (try clear hi)))
   have n0_ := mkA (blk_drew BK357.out)
   have n1_ := mkA (blk_drew BK358.out)
   have n2_ := mkA (below_drew1 HB.out)
   clear BK357
   clear BK358
   clear HB
   have BK357 := n0_
   have BK358 := n1_
   have HB := n2_
   clear n0_ n1_ n2_
   refine start_ (n := 11) (S := fun w' => w'.cell? ⟨gb357, 0, none⟩ = some (.int .i64 a0_0) ∧ w'.cell? ⟨gb357, 1, none⟩ = some (.int .i64 a0_1) ∧ w'.cell? ⟨gb357, 2, none⟩ = some (.slice A0_2 l0_2.length c0_2) ∧ w'.cell? ⟨gb358, 0, none⟩ = some (.int .i64 a1_0) ∧ w'.cell? ⟨gb358, 1, none⟩ = some (.int .i64 a1_1) ∧ w'.cell? ⟨gb358, 2, none⟩ = some (.int .i64 a1_2)) (ds := []) laws_FnExactTileImage.d0 (by kernel_rfl) rfl rfl ⟨(blk_cell BK357.out 0).trans rfl, (blk_cell BK357.out 1).trans rfl, (blk_cell BK357.out 2).trans rfl, (blk_cell BK358.out 0).trans rfl, (blk_cell BK358.out 1).trans rfl, (blk_cell BK358.out 2).trans rfl⟩ (fun hHeld => ?_); refine with_tabW laws_FnExactTileImage.tab5 laws_FnExactTileImage.bits5 (fun HT_ HW_ => ?_)
   generalize w22.drew = w23 at BK357 BK358 HB hHeld ⊢
   refine p1_ HT_.out 4 23 laws_FnExactTileImage.d1 ?_
   refine take_ (i := 0) (N := some 19) (v := ?_) (a' := ?_) laws_FnExactTileImage.d2 rfl rfl (take_ofW HT_.out HW_.out (by kernel_rfl)) (fun _ _ _ h => h) (Or.inl ⟨by rfl, ?_⟩) hHeld ?_ ?_
   rotate_left
   · rintro w' ⟨s0, s1, s2, s3, s4, s5⟩
     go_simp
     with_reducible rfl
   rotate_left
   · simp only [Act.put, sA, sB, sC, i64_w, i32_w]
     rfl
   refine take_ (i := 2) (N := some 21) (v := ?_) (a' := ?_) laws_FnExactTileImage.d3 rfl rfl (take_ofW HT_.out HW_.out (by kernel_rfl)) (fun _ _ _ h => h) (Or.inl ⟨by rfl, ?_⟩) hHeld ?_ ?_
   rotate_left
   · rintro w' ⟨s0, s1, s2, s3, s4, s5⟩
     go_simp
     with_reducible rfl
   rotate_left
   · simp only [Act.put, sA, sB, sC, i64_w, i32_w]
     rfl
   refine one_ (i := 1) (N := some 20) laws_FnExactTileImage.d4 rfl rfl (one_of HT_.out (by kernel_rfl)) (by decide) (fun K hK => ?_)
   refine goes_ Try.func17 (by kernel_rfl) rfl #[.agg #[.int .i64 a0_0, .int .i64 a0_1, .slice A0_2 l0_2.length c0_2]] (by rfl) rfl rfl (by (try simp only [List.map_toArray, List.map_cons, List.map_nil]); first | done | rfl | (simp only [List.length_drop, List.length_take]; rfl)) ?_
   with_reducible refine (laws_toTiling.calls k a0_0 a0_1 _ _ l0_2 t360 t361 t362 _ ?side1 ?side2 A11.out).mono ?_
   (case side1 => exact cb_ HR0_2.out HB.out)
   (case side2 => exact HC0_2.out)
   rintro e w24 ⟨v363, rfl, ho0, hb⟩
   refine ⟨_, rfl, ?_⟩
   have n0_ := mkA (Kd.R_lower ho0 (below_size (bs2_ HB.out GE357.out GE358.out)))
   have n1_ := mkA (blk_below (g := gb357) (o := .cells #[.int .i64 a0_0, .int .i64 a0_1, .slice A0_2 l0_2.length c0_2] 24 (0, 0)) (bl_ BK357.out) hb)
   have n2_ := mkA (blk_below (g := gb358) (o := .cells #[.int .i64 a1_0, .int .i64 a1_1, .int .i64 a1_2] 26 (0, 0)) (bl_ BK358.out) hb)
   have n3_ := mkA (below_step (bs2_ HB.out GE357.out GE358.out) hb)
   clear BK357
   clear BK358
   clear HB
   have HO364 := n0_
   have BK357 := n1_
   have BK358 := n2_
   have HB := n3_
   clear n0_ n1_ n2_ n3_
   (try clear hb)
   (try clear hb2)
   (try clear hk)
   (try clear hi)
   (try clear ho0)
   refine hK.out _ _ ⟨(blk_cell BK357.out 0).trans rfl, (blk_cell BK357.out 1).trans rfl, (blk_cell BK357.out 2).trans rfl, (blk_cell BK358.out 0).trans rfl, (blk_cell BK358.out 1).trans rfl, (blk_cell BK358.out 2).trans rfl⟩ (fun hHeld => ?_)
   clear hK K
   refine norm_ (a' := ?_) ?_ ?_
   rotate_left
   · show Act.put _ (some 20) _ = _
     simp only [Act.put, sA, sB, sC, i64_w, i32_w]
     rfl
   refine one_ (i := 3) (N := some 22) laws_FnExactTileImage.d5 rfl rfl (one_of HT_.out (by kernel_rfl)) (by decide) (fun K hK => ?_)
   refine goes_ Try.func18 (by kernel_rfl) rfl #[.agg #[.int .i64 a1_0, .int .i64 a1_1, .int .i64 a1_2]] (by rfl) rfl rfl (by (try simp only [List.map_toArray, List.map_cons, List.map_nil]); first | done | rfl | (simp only [List.length_drop, List.length_take]; rfl)) ?_
   with_reducible refine (laws_toMotion.calls a1_0 a1_1 a1_2 t365 t366 t367 _ A12.out).mono ?_
   rintro e w25 ⟨rfl, hb⟩
   refine ⟨_, rfl, ?_⟩
   have n0_ := mkA (Kd.R_below (by (with_reducible repeat (first | apply Kd.R_alloc | apply Kd.R_drewN | apply Kd.R_drew)); exact HO364.out) hb)
   have n1_ := mkA (blk_below (g := gb357) (o := .cells #[.int .i64 a0_0, .int .i64 a0_1, .slice A0_2 l0_2.length c0_2] 24 (0, 0)) (bl_ BK357.out) hb)
   have n2_ := mkA (blk_below (g := gb358) (o := .cells #[.int .i64 a1_0, .int .i64 a1_1, .int .i64 a1_2] 26 (0, 0)) (bl_ BK358.out) hb)
   have n3_ := mkA (below_step (bs2_ HB.out GE357.out GE358.out) hb)
   clear HO364
   clear BK357
   clear BK358
   clear HB
   have HO364 := n0_
   have BK357 := n1_
   have BK358 := n2_
   have HB := n3_
   clear n0_ n1_ n2_ n3_
   (try clear hb)
   (try clear hb2)
   (try clear hk)
   (try clear hi)
   obtain ⟨Ao26, co26, eo26⟩ := Kd.R_slice HO364.out
   (first | subst eo26 | (injection eo26 with f1_ f2_ f3_; have f4_ := f1_.symm; have f5_ := f3_.symm; clear f1_ f2_ f3_; subst f4_; subst f5_))
   refine hK.out _ _ ⟨(blk_cell BK357.out 0).trans rfl, (blk_cell BK357.out 1).trans rfl, (blk_cell BK357.out 2).trans rfl, (blk_cell BK358.out 0).trans rfl, (blk_cell BK358.out 1).trans rfl, (blk_cell BK358.out 2).trans rfl⟩ (fun hHeld => ?_)
   clear hK K
   refine norm_ (a' := ?_) ?_ ?_
   rotate_left
   · show Act.put _ (some 22) _ = _
     simp only [Act.put, sA, sB, sC, i64_w, i32_w]
     rfl
   refine one_ (i := 5) (N := some 24) laws_FnExactTileImage.d6 rfl rfl (one_of HT_.out (by kernel_rfl)) (by decide) (fun K hK => ?_)
   refine goes_ Try.func39 (by kernel_rfl) rfl #[.agg #[.int .i64 t360, .int .i64 t361, .slice Ao26 t362.length co26], .agg #[.int .i64 t365, .int .i64 t366, .int .i64 t367], .int .i64 a2] (by rfl) rfl rfl (by (try simp only [List.map_toArray, List.map_cons, List.map_nil]); first | done | rfl | (simp only [List.length_drop, List.length_take]; rfl)) ?_
   with_reducible refine (spec_TileImage.calls k t360 t361 _ _ t362 t365 t366 t367 a2 t368 t369 _ ?side1 ?side2 A13.out).mono ?_
   (case side1 => repeat (first | exact (Kd.R_reads' HO364.out).2.2 | (with_reducible refine Kd.C_alloc ?_ _) | (with_reducible refine Kd.C_drewN ?_ _) | (with_reducible refine Kd.C_drew ?_)))
   (case side2 => exact (Kd.R_reads' HO364.out).2.1)
   rintro e w27 ⟨rfl, hb⟩
   refine ⟨_, rfl, ?_⟩
   have n0_ := mkA (Kd.R_below (by (with_reducible repeat (first | apply Kd.R_alloc | apply Kd.R_drewN | apply Kd.R_drew)); exact HO364.out) hb)
   have n1_ := mkA (blk_below (g := gb357) (o := .cells #[.int .i64 a0_0, .int .i64 a0_1, .slice A0_2 l0_2.length c0_2] 24 (0, 0)) (bl_ BK357.out) hb)
   have n2_ := mkA (blk_below (g := gb358) (o := .cells #[.int .i64 a1_0, .int .i64 a1_1, .int .i64 a1_2] 26 (0, 0)) (bl_ BK358.out) hb)
   have n3_ := mkA (below_step (bs2_ HB.out GE357.out GE358.out) hb)
   clear HO364
   clear BK357
   clear BK358
   clear HB
   have HO364 := n0_
   have BK357 := n1_
   have BK358 := n2_
   have HB := n3_
   clear n0_ n1_ n2_ n3_
   (try clear hb)
   (try clear hb2)
   (try clear hk)
   (try clear hi)
   refine hK.out _ _ ⟨(blk_cell BK357.out 0).trans rfl, (blk_cell BK357.out 1).trans rfl, (blk_cell BK357.out 2).trans rfl, (blk_cell BK358.out 0).trans rfl, (blk_cell BK358.out 1).trans rfl, (blk_cell BK358.out 2).trans rfl⟩ (fun hHeld => ?_)
   clear hK K
   refine norm_ (a' := ?_) ?_ ?_
   rotate_left
   · show Act.put _ (some 24) _ = _
     simp only [Act.put, sA, sB, sC, i64_w, i32_w]
     rfl
   refine p1_ HT_.out 6 18 laws_FnExactTileImage.d7 ?_
   refine p1_ HT_.out 7 25 laws_FnExactTileImage.d8 ?_
   refine p1_ HT_.out 8 26 laws_FnExactTileImage.d9 ?_
   refine p1_ HT_.out 9 8 laws_FnExactTileImage.d10 ?_
   refine p1_ HT_.out 10 9 laws_FnExactTileImage.d11 ?_
   refine done_ (done_of HT_.out (by kernel_rfl)) ?_
   have hcz28_0 : w27.cell? ⟨gb357, 0, none⟩ = some (.int .i64 a0_0) := (blk_cell BK357.out 0).trans rfl
   have hcz28_1 : w27.cell? ⟨gb357, 1, none⟩ = some (.int .i64 a0_1) := (blk_cell BK357.out 1).trans rfl
   have hcz28_2 : w27.cell? ⟨gb357, 2, none⟩ = some (.slice A0_2 l0_2.length c0_2) := (blk_cell BK357.out 2).trans rfl
   have hfz28_0 := blk_frozen BK357.out 0
   have hfz28_1 := blk_frozen BK357.out 1
   have hfz28_2 := blk_frozen BK357.out 2
   try go_wp2_with (first | ((with_reducible refine gate_callee (f := 17) rfl ?_); refine goesL_ (some 28) rfl rfl Try.func17 (by kernel_rfl) rfl #[.agg #[.int .i64 a0_0, .int .i64 a0_1, .slice A0_2 l0_2.length c0_2]] rfl (by (try simp only [List.map_toArray, List.map_cons, List.map_nil]); first | done | rfl | (simp only [List.length_drop, List.length_take]; rfl)) ?_; (with_reducible refine (laws_toTiling.calls k a0_0 a0_1 _ _ l0_2 t370 t371 t372 _ ?side1 ?side2 A14.out).mono ?_); (case side1 => exact cb_ HR0_2.out HB.out); (case side2 => exact HC0_2.out); rintro e w29 ⟨v373, rfl, ho0, hb⟩; refine ⟨_, rfl, ?_⟩; have n0_ := mkA (Kd.R_elder' (by (with_reducible repeat (first | apply Kd.R_alloc | apply Kd.R_drewN | apply Kd.R_drew)); exact HO364.out) (Kd.R_base ho0) hb); have n1_ := mkA (Kd.R_lower (Kd.R_new' ho0 (Kd.R_lt (by (with_reducible repeat (first | apply Kd.R_alloc | apply Kd.R_drewN | apply Kd.R_drew)); exact HO364.out))) (below_size (bs2_ HB.out GE357.out GE358.out))); have n2_ := mkA (blk_below (g := gb357) (o := .cells #[.int .i64 a0_0, .int .i64 a0_1, .slice A0_2 l0_2.length c0_2] 24 (0, 0)) (bl_ BK357.out) hb); have n3_ := mkA (blk_below (g := gb358) (o := .cells #[.int .i64 a1_0, .int .i64 a1_1, .int .i64 a1_2] 26 (0, 0)) (bl_ BK358.out) hb); have n4_ := mkA (below_step (bs2_ HB.out GE357.out GE358.out) hb); clear HO364; clear BK357; clear BK358; clear HB; have HO364 := n0_; have HO374 := n1_; have BK357 := n2_; have BK358 := n3_; have HB := n4_; clear n0_ n1_ n2_ n3_ n4_; (try clear hb); (try clear hb2); (try clear hk); (try clear hi); (try clear ho0)) | ((with_reducible refine gate_dst (N := 10) rfl ?_); refine box_event ?hg (N := 10) ?hd (cs := #[.int .i64 0, .int .i64 0, .slice none 0 0]) (t := 29) ?hr ?_; (case hd => rfl); (case hg => rfl); (case hr => first | (go_simp; done) | (go_simp; rfl)); intro gb375 hg w30 hbox hb; have n0_ := mkA (Kd.R_below (by (with_reducible repeat (first | apply Kd.R_alloc | apply Kd.R_drewN | apply Kd.R_drew)); exact HO364.out) hb); have n1_ := mkA (Kd.R_below (by (with_reducible repeat (first | apply Kd.R_alloc | apply Kd.R_drewN | apply Kd.R_drew)); exact HO374.out) hb); have n2_ := mkA (blk_below (g := gb357) (o := .cells #[.int .i64 a0_0, .int .i64 a0_1, .slice A0_2 l0_2.length c0_2] 24 (0, 0)) (bl_ BK357.out) hb); have n3_ := mkA (blk_below (g := gb358) (o := .cells #[.int .i64 a1_0, .int .i64 a1_1, .int .i64 a1_2] 26 (0, 0)) (bl_ BK358.out) hb); have n4_ := mkA (below_step (bs2_ HB.out GE357.out GE358.out) hb); have n5_ := mkA (hbox); have n6_ := mkA ((by rw [hg]; exact (below_size (bs2_ HB.out GE357.out GE358.out)) : w.heap.size ≤ gb375)); have n7_ := mkA ((by rw [hg]; exact (below_size (bs2_ HB.out GE357.out GE358.out)) : w.heap.size ≤ gb375)); have n8_ := mkA ((by rw [hg]; exact Nat.ne_of_lt (blk_lt (g := gb357) (o := .cells #[.int .i64 a0_0, .int .i64 a0_1, .slice A0_2 l0_2.length c0_2] 24 (0, 0)) (bl_ BK357.out)) : gb357 ≠ gb375)); have n9_ := mkA ((by rw [hg]; exact Nat.ne_of_gt (blk_lt (g := gb357) (o := .cells #[.int .i64 a0_0, .int .i64 a0_1, .slice A0_2 l0_2.length c0_2] 24 (0, 0)) (bl_ BK357.out)) : gb375 ≠ gb357)); have n10_ := mkA ((by rw [hg]; exact Nat.ne_of_lt (blk_lt (g := gb358) (o := .cells #[.int .i64 a1_0, .int .i64 a1_1, .int .i64 a1_2] 26 (0, 0)) (bl_ BK358.out)) : gb358 ≠ gb375)); have n11_ := mkA ((by rw [hg]; exact Nat.ne_of_gt (blk_lt (g := gb358) (o := .cells #[.int .i64 a1_0, .int .i64 a1_1, .int .i64 a1_2] 26 (0, 0)) (bl_ BK358.out)) : gb375 ≠ gb358)); clear HO364; clear HO374; clear BK357; clear BK358; clear HB; have HO364 := n0_; have HO374 := n1_; have BK357 := n2_; have BK358 := n3_; have HB := n4_; have BK375 := n5_; have GW375 := n6_; have GE375 := n7_; have NB357_375 := n8_; have NB375_357 := n9_; have NB358_375 := n10_; have NB375_358 := n11_; clear n0_ n1_ n2_ n3_ n4_ n5_ n6_ n7_ n8_ n9_ n10_ n11_; clear hb hbox hg; have hnb31 := NB375_357.out; have hnc31 := NB357_375.out; have hnb32 := NB375_358.out; have hnc32 := NB358_375.out; have hcz33_0 : w30.cell? ⟨gb375, 0, none⟩ = some (.int .i64 0) := (blk_cell BK375.out 0).trans rfl; have hcz33_1 : w30.cell? ⟨gb375, 1, none⟩ = some (.int .i64 0) := (blk_cell BK375.out 1).trans rfl; have hcz33_2 : w30.cell? ⟨gb375, 2, none⟩ = some (.slice none 0 0) := (blk_cell BK375.out 2).trans rfl; have hfz33_0 := blk_frozen BK375.out 0; have hfz33_1 := blk_frozen BK375.out 1; have hfz33_2 := blk_frozen BK375.out 2; obtain ⟨Ao34, co34, eo34⟩ := Kd.R_slice HO374.out; subst eo34))
   have n0_ : Aside0 (Kd.R (Kd.int .i64) 2 (((w30.setCell ⟨gb375, 0, none⟩ (.int .i64 t370)).setCell ⟨gb375, 1, none⟩ (.int .i64 t371)).setCell ⟨gb375, 2, none⟩ (.slice Ao34 t372.length co34)) w.heap.size (fun k_ => some k_ ≠ (.slice Ao34 t372.length co34 : Value).ownBlock) (.slice Ao26 t362.length co26) t362) := ⟨by (with_reducible repeat (first | apply Kd.R_alloc | apply Kd.R_drewN | apply Kd.R_drew)); exact Kd.R_mono (Kd.R_far (p := ⟨gb375, 2, none⟩) (Kd.R_far (p := ⟨gb375, 1, none⟩) (Kd.R_far (p := ⟨gb375, 0, none⟩) (Kd.R_types HO364.out BK375.out (by decide)) (fun _ hk => hk.2) (.int .i64 t370)) (fun _ hk => hk.2) (.int .i64 t371)) (fun _ hk => hk.2) (.slice Ao34 t372.length co34)) (fun _ hk => hk.1.2)⟩
   have n1_ : Aside0 (Kd.R (Kd.int .i64) 2 (((w30.setCell ⟨gb375, 0, none⟩ (.int .i64 t370)).setCell ⟨gb375, 1, none⟩ (.int .i64 t371)).setCell ⟨gb375, 2, none⟩ (.slice Ao34 t372.length co34)) w.heap.size (fun k_ => some k_ ≠ (.slice Ao26 t362.length co26 : Value).ownBlock) (.slice Ao34 t372.length co34) t372) := ⟨by (with_reducible repeat (first | apply Kd.R_alloc | apply Kd.R_drewN | apply Kd.R_drew)); exact Kd.R_mono (Kd.R_far (p := ⟨gb375, 2, none⟩) (Kd.R_far (p := ⟨gb375, 1, none⟩) (Kd.R_far (p := ⟨gb375, 0, none⟩) (Kd.R_types HO374.out BK375.out (by decide)) (fun _ hk => hk.2) (.int .i64 t370)) (fun _ hk => hk.2) (.int .i64 t371)) (fun _ hk => hk.2) (.slice Ao34 t372.length co34)) (fun _ hk => hk.1.2)⟩
   have n2_ : Aside0 ((((w30.setCell ⟨gb375, 0, none⟩ (.int .i64 t370)).setCell ⟨gb375, 1, none⟩ (.int .i64 t371)).setCell ⟨gb375, 2, none⟩ (.slice Ao34 t372.length co34)).heap[gb357]? = some (.cells #[.int .i64 a0_0, .int .i64 a0_1, .slice A0_2 l0_2.length c0_2] 24 (0, 0))) := ⟨by (with_reducible repeat (first | refine blk_drewN ?_ _ | refine blk_drew ?_ | refine blk_alloc ?_ _)); refine blk_far ?_ NB357_375.out _; (with_reducible repeat (first | refine blk_drewN ?_ _ | refine blk_drew ?_ | refine blk_alloc ?_ _)); refine blk_far ?_ NB357_375.out _; (with_reducible repeat (first | refine blk_drewN ?_ _ | refine blk_drew ?_ | refine blk_alloc ?_ _)); refine blk_far ?_ NB357_375.out _; (with_reducible repeat (first | refine blk_drewN ?_ _ | refine blk_drew ?_ | refine blk_alloc ?_ _)); exact BK357.out⟩
   have n3_ : Aside0 ((((w30.setCell ⟨gb375, 0, none⟩ (.int .i64 t370)).setCell ⟨gb375, 1, none⟩ (.int .i64 t371)).setCell ⟨gb375, 2, none⟩ (.slice Ao34 t372.length co34)).heap[gb358]? = some (.cells #[.int .i64 a1_0, .int .i64 a1_1, .int .i64 a1_2] 26 (0, 0))) := ⟨by (with_reducible repeat (first | refine blk_drewN ?_ _ | refine blk_drew ?_ | refine blk_alloc ?_ _)); refine blk_far ?_ NB358_375.out _; (with_reducible repeat (first | refine blk_drewN ?_ _ | refine blk_drew ?_ | refine blk_alloc ?_ _)); refine blk_far ?_ NB358_375.out _; (with_reducible repeat (first | refine blk_drewN ?_ _ | refine blk_drew ?_ | refine blk_alloc ?_ _)); refine blk_far ?_ NB358_375.out _; (with_reducible repeat (first | refine blk_drewN ?_ _ | refine blk_drew ?_ | refine blk_alloc ?_ _)); exact BK358.out⟩
   have n4_ : Aside0 ((((w30.setCell ⟨gb375, 0, none⟩ (.int .i64 t370)).setCell ⟨gb375, 1, none⟩ (.int .i64 t371)).setCell ⟨gb375, 2, none⟩ (.slice Ao34 t372.length co34)).heap[gb375]? = some (.cells #[.int .i64 t370, .int .i64 t371, .slice Ao34 t372.length co34] 29 (0, 0))) := ⟨by (with_reducible repeat (first | refine blk_drewN ?_ _ | refine blk_drew ?_ | refine blk_alloc ?_ _)); refine blk_put (cs := #[.int .i64 t370, .int .i64 t371, .slice none 0 0]) ?_ 2 _ rfl; (with_reducible repeat (first | refine blk_drewN ?_ _ | refine blk_drew ?_ | refine blk_alloc ?_ _)); refine blk_put (cs := #[.int .i64 t370, .int .i64 0, .slice none 0 0]) ?_ 1 _ rfl; (with_reducible repeat (first | refine blk_drewN ?_ _ | refine blk_drew ?_ | refine blk_alloc ?_ _)); refine blk_put (cs := #[.int .i64 0, .int .i64 0, .slice none 0 0]) ?_ 0 _ rfl; (with_reducible repeat (first | refine blk_drewN ?_ _ | refine blk_drew ?_ | refine blk_alloc ?_ _)); exact BK375.out⟩
   have n5_ : Aside0 (Below w.heap.size w (((w30.setCell ⟨gb375, 0, none⟩ (.int .i64 t370)).setCell ⟨gb375, 1, none⟩ (.int .i64 t371)).setCell ⟨gb375, 2, none⟩ (.slice Ao34 t372.length co34))) := ⟨by repeat (first | (with_reducible first | exact HB.out | apply below_alloc | apply pw_below_drewN | apply below_drew1 | refine below_set ?_ GE357.out | refine below_set ?_ GE358.out | refine below_set ?_ GE375.out) | exact HB.out)⟩
   (try clear HO364)
   (try clear HO374)
   (try clear BK357)
   (try clear BK358)
   (try clear BK375)
   (try clear HB)
   generalize (((w30.setCell ⟨gb375, 0, none⟩ (.int .i64 t370)).setCell ⟨gb375, 1, none⟩ (.int .i64 t371)).setCell ⟨gb375, 2, none⟩ (.slice Ao34 t372.length co34)) = w35 at n0_ n1_ n2_ n3_ n4_ n5_ ⊢
   have HO364 := n0_
   have HO374 := n1_
   have BK357 := n2_
   have BK358 := n3_
   have BK375 := n4_
   have HB := n5_
   clear n0_ n1_ n2_ n3_ n4_ n5_
   have n0_ := mkA (Kd.R_drew HO364.out)
   have n1_ := mkA (Kd.R_drew HO374.out)
   have n2_ := mkA (blk_drew BK357.out)
   have n3_ := mkA (blk_drew BK358.out)
   have n4_ := mkA (blk_drew BK375.out)
   have n5_ := mkA (below_drew1 HB.out)
   clear HO364
   clear HO374
   clear BK357
   clear BK358
   clear BK375
   clear HB
   have HO364 := n0_
   have HO374 := n1_
   have BK357 := n2_
   have BK358 := n3_
   have BK375 := n4_
   have HB := n5_
   clear n0_ n1_ n2_ n3_ n4_ n5_
   refine start_ (n := 10) (S := fun w' => w'.cell? ⟨gb375, 0, none⟩ = some (.int .i64 t370) ∧ w'.cell? ⟨gb375, 1, none⟩ = some (.int .i64 t371) ∧ w'.cell? ⟨gb375, 2, none⟩ = some (.slice Ao34 t372.length co34) ∧ w'.cell? ⟨gb358, 0, none⟩ = some (.int .i64 a1_0) ∧ w'.cell? ⟨gb358, 1, none⟩ = some (.int .i64 a1_1) ∧ w'.cell? ⟨gb358, 2, none⟩ = some (.int .i64 a1_2)) (ds := []) laws_FnExactTileImage.d12 (by kernel_rfl) rfl rfl ⟨(blk_cell BK375.out 0).trans rfl, (blk_cell BK375.out 1).trans rfl, (blk_cell BK375.out 2).trans rfl, (blk_cell BK358.out 0).trans rfl, (blk_cell BK358.out 1).trans rfl, (blk_cell BK358.out 2).trans rfl⟩ (fun hHeld => ?_); refine with_tabW laws_FnExactTileImage.tab7 laws_FnExactTileImage.bits7 (fun HT_ HW_ => ?_)
   generalize w35.drew = w36 at HO364 HO374 BK357 BK358 BK375 HB hHeld ⊢
   refine p1_ HT_.out 3 33 laws_FnExactTileImage.d13 ?_
   refine take_ (i := 0) (N := some 30) (v := ?_) (a' := ?_) laws_FnExactTileImage.d14 rfl rfl (take_ofW HT_.out HW_.out (by kernel_rfl)) (fun _ _ _ h => h) (Or.inl ⟨by rfl, ?_⟩) hHeld ?_ ?_
   rotate_left
   · rintro w' ⟨s0, s1, s2, s3, s4, s5⟩
     go_simp
     with_reducible rfl
   rotate_left
   · simp only [Act.put, sA, sB, sC, i64_w, i32_w]
     rfl
   refine take_ (i := 1) (N := some 31) (v := ?_) (a' := ?_) laws_FnExactTileImage.d15 rfl rfl (take_ofW HT_.out HW_.out (by kernel_rfl)) (fun _ _ _ h => h) (Or.inl ⟨by rfl, ?_⟩) hHeld ?_ ?_
   rotate_left
   · rintro w' ⟨s0, s1, s2, s3, s4, s5⟩
     go_simp
     with_reducible rfl
   rotate_left
   · simp only [Act.put, sA, sB, sC, i64_w, i32_w]
     rfl
   refine one_ (i := 2) (N := some 32) laws_FnExactTileImage.d16 rfl rfl (one_of HT_.out (by kernel_rfl)) (by decide) (fun K hK => ?_)
   refine goes_ Try.func18 (by kernel_rfl) rfl #[.agg #[.int .i64 a1_0, .int .i64 a1_1, .int .i64 a1_2]] (by rfl) rfl rfl (by (try simp only [List.map_toArray, List.map_cons, List.map_nil]); first | done | rfl | (simp only [List.length_drop, List.length_take]; rfl)) ?_
   with_reducible refine (laws_toMotion.calls a1_0 a1_1 a1_2 t376 t377 t378 _ A15.out).mono ?_
   rintro e w37 ⟨rfl, hb⟩
   refine ⟨_, rfl, ?_⟩
   have n0_ := mkA (Kd.R_below (by (with_reducible repeat (first | apply Kd.R_alloc | apply Kd.R_drewN | apply Kd.R_drew)); exact HO364.out) hb)
   have n1_ := mkA (Kd.R_below (by (with_reducible repeat (first | apply Kd.R_alloc | apply Kd.R_drewN | apply Kd.R_drew)); exact HO374.out) hb)
   have n2_ := mkA (blk_below (g := gb357) (o := .cells #[.int .i64 a0_0, .int .i64 a0_1, .slice A0_2 l0_2.length c0_2] 24 (0, 0)) (bl_ BK357.out) hb)
   have n3_ := mkA (blk_below (g := gb358) (o := .cells #[.int .i64 a1_0, .int .i64 a1_1, .int .i64 a1_2] 26 (0, 0)) (bl_ BK358.out) hb)
   have n4_ := mkA (blk_below (g := gb375) (o := .cells #[.int .i64 t370, .int .i64 t371, .slice Ao34 t372.length co34] 29 (0, 0)) (bl_ BK375.out) hb)
   have n5_ := mkA (below_step (bs3_ HB.out GE357.out GE358.out GE375.out) hb)
   clear HO364
   clear HO374
   clear BK357
   clear BK358
   clear BK375
   clear HB
   have HO364 := n0_
   have HO374 := n1_
   have BK357 := n2_
   have BK358 := n3_
   have BK375 := n4_
   have HB := n5_
   clear n0_ n1_ n2_ n3_ n4_ n5_
   (try clear hb)
   (try clear hb2)
   (try clear hk)
   (try clear hi)
   refine hK.out _ _ ⟨(blk_cell BK375.out 0).trans rfl, (blk_cell BK375.out 1).trans rfl, (blk_cell BK375.out 2).trans rfl, (blk_cell BK358.out 0).trans rfl, (blk_cell BK358.out 1).trans rfl, (blk_cell BK358.out 2).trans rfl⟩ (fun hHeld => ?_)
   clear hK K
   refine norm_ (a' := ?_) ?_ ?_
   rotate_left
   · show Act.put _ (some 32) _ = _
     simp only [Act.put, sA, sB, sC, i64_w, i32_w]
     rfl
   refine one_ (i := 4) (N := some 34) laws_FnExactTileImage.d17 rfl rfl (one_of HT_.out (by kernel_rfl)) (by decide) (fun K hK => ?_)
   refine goes_ Try.func40 (by kernel_rfl) rfl #[.agg #[.int .i64 t370, .int .i64 t371, .slice Ao34 t372.length co34], .agg #[.int .i64 t376, .int .i64 t377, .int .i64 t378], .int .i64 a2] (by rfl) rfl rfl (by (try simp only [List.map_toArray, List.map_cons, List.map_nil]); first | done | rfl | (simp only [List.length_drop, List.length_take]; rfl)) ?_
   with_reducible refine (impl_TileImage.calls k t370 t371 _ _ t372 t376 t377 t378 a2 t379 t380 _ ?side1 ?side2 A16.out).mono ?_
   (case side1 => repeat (first | exact (Kd.R_reads' HO374.out).2.2 | (with_reducible refine Kd.C_alloc ?_ _) | (with_reducible refine Kd.C_drewN ?_ _) | (with_reducible refine Kd.C_drew ?_)))
   (case side2 => exact (Kd.R_reads' HO374.out).2.1)
   rintro e w38 ⟨rfl, hb⟩
   refine ⟨_, rfl, ?_⟩
   have n0_ := mkA (Kd.R_below (by (with_reducible repeat (first | apply Kd.R_alloc | apply Kd.R_drewN | apply Kd.R_drew)); exact HO364.out) hb)
   have n1_ := mkA (Kd.R_below (by (with_reducible repeat (first | apply Kd.R_alloc | apply Kd.R_drewN | apply Kd.R_drew)); exact HO374.out) hb)
   have n2_ := mkA (blk_below (g := gb357) (o := .cells #[.int .i64 a0_0, .int .i64 a0_1, .slice A0_2 l0_2.length c0_2] 24 (0, 0)) (bl_ BK357.out) hb)
   have n3_ := mkA (blk_below (g := gb358) (o := .cells #[.int .i64 a1_0, .int .i64 a1_1, .int .i64 a1_2] 26 (0, 0)) (bl_ BK358.out) hb)
   have n4_ := mkA (blk_below (g := gb375) (o := .cells #[.int .i64 t370, .int .i64 t371, .slice Ao34 t372.length co34] 29 (0, 0)) (bl_ BK375.out) hb)
   have n5_ := mkA (below_step (bs3_ HB.out GE357.out GE358.out GE375.out) hb)
   clear HO364
   clear HO374
   clear BK357
   clear BK358
   clear BK375
   clear HB
   have HO364 := n0_
   have HO374 := n1_
   have BK357 := n2_
   have BK358 := n3_
   have BK375 := n4_
   have HB := n5_
   clear n0_ n1_ n2_ n3_ n4_ n5_
   (try clear hb)
   (try clear hb2)
   (try clear hk)
   (try clear hi)
   refine hK.out _ _ ⟨(blk_cell BK375.out 0).trans rfl, (blk_cell BK375.out 1).trans rfl, (blk_cell BK375.out 2).trans rfl, (blk_cell BK358.out 0).trans rfl, (blk_cell BK358.out 1).trans rfl, (blk_cell BK358.out 2).trans rfl⟩ (fun hHeld => ?_)
   clear hK K
   refine norm_ (a' := ?_) ?_ ?_
   rotate_left
   · show Act.put _ (some 34) _ = _
     simp only [Act.put, sA, sB, sC, i64_w, i32_w]
     rfl
   refine p1_ HT_.out 5 29 laws_FnExactTileImage.d18 ?_
   refine p1_ HT_.out 6 35 laws_FnExactTileImage.d19 ?_
   refine p1_ HT_.out 7 36 laws_FnExactTileImage.d20 ?_
   refine p1_ HT_.out 8 11 laws_FnExactTileImage.d21 ?_
   refine p1_ HT_.out 9 12 laws_FnExactTileImage.d22 ?_
   refine done_ (done_of HT_.out (by kernel_rfl)) ?_
   go_upto_region 8 with (fail)
   go_cut [44] (fun v44 wc => ∃ (kq : Nat) (x44_16 : Bool), v44 = .bool x44_16 ∧ Aside0 (laws_FnExactTileImage.j0 kq x44_16 a0_0 a0_1 l0_2 t370 t371 t372 = some r) ∧ Aside0 (kq ≤ k) ∧ Aside0 (Kd.R (Kd.int .i64) 2 wc w.heap.size (fun _ => True) (.slice Ao34 t372.length co34) t372) ∧ Aside0 (wc.heap[gb357]? = some (.cells #[.int .i64 a0_0, .int .i64 a0_1, (.slice A0_2 l0_2.length c0_2)] 24 (0, 0))) ∧ Aside0 (wc.heap[gb358]? = some (.cells #[.int .i64 a1_0, .int .i64 a1_1, .int .i64 a1_2] 26 (0, 0))) ∧ Aside0 (wc.heap[gb375]? = some (.cells #[.int .i64 t370, .int .i64 t371, (.slice Ao34 t372.length co34)] 29 (0, 0))) ∧ Aside0 (Below w.heap.size w wc))
   case first =>
    have H := HC17.out
    clear HC17
    by_cases c39 : t379 = t368
    rotate_left
    · rw [if_neg c39] at H
      have c39b0 : (t379 == t368) = false := beq_eq_false_iff_ne.mpr c39
      have c39b1 : (t379 != t368) = true := bne_iff_ne.mpr c39
      (first | rw [c39b0] | (simp only [i64_w, i32_w]; rw [c39b0]) | skip)
      have H' := mkA H
      clear H
      go_wp2
      go_meet
      case rel => exact ⟨_, (true), (by first | rfl | (simp; done) | (simp [*]; done) | (simp [i64_w, i32_w]; done)), H', ⟨by first | omega | exact Nat.le_refl _⟩, ⟨by (with_reducible repeat (first | apply Kd.R_alloc | apply Kd.R_drewN | apply Kd.R_drew)); exact Kd.R_mono HO374.out (fun _ hk => trivial)⟩, ⟨by (with_reducible repeat (first | refine blk_drewN ?_ _ | refine blk_drew ?_ | refine blk_alloc ?_ _)); exact BK357.out⟩, ⟨by (with_reducible repeat (first | refine blk_drewN ?_ _ | refine blk_drew ?_ | refine blk_alloc ?_ _)); exact BK358.out⟩, ⟨by (with_reducible repeat (first | refine blk_drewN ?_ _ | refine blk_drew ?_ | refine blk_alloc ?_ _)); exact BK375.out⟩, ⟨by repeat (first | (with_reducible first | exact HB.out | apply below_alloc | apply pw_below_drewN | apply below_drew1 | refine below_set ?_ GE357.out | refine below_set ?_ GE358.out | refine below_set ?_ GE375.out) | exact HB.out)⟩⟩
    rw [if_pos c39] at H
    have c39b0 : (t379 == t368) = true := beq_iff_eq.mpr c39
    have c39b1 : (t379 != t368) = false := bne_eq_false_iff_eq.mpr c39
    clear c39
    (first | rw [c39b0] | (simp only [i64_w, i32_w]; rw [c39b0]) | skip)
    have H' := mkA H
    clear H
    go_wp2
    go_meet
    case rel => exact ⟨_, ((t380 != t369)), (by first | rfl | (simp; done) | (simp [*]; done) | (simp [i64_w, i32_w]; done)), H', ⟨by first | omega | exact Nat.le_refl _⟩, ⟨by (with_reducible repeat (first | apply Kd.R_alloc | apply Kd.R_drewN | apply Kd.R_drew)); exact Kd.R_mono HO374.out (fun _ hk => trivial)⟩, ⟨by (with_reducible repeat (first | refine blk_drewN ?_ _ | refine blk_drew ?_ | refine blk_alloc ?_ _)); exact BK357.out⟩, ⟨by (with_reducible repeat (first | refine blk_drewN ?_ _ | refine blk_drew ?_ | refine blk_alloc ?_ _)); exact BK358.out⟩, ⟨by (with_reducible repeat (first | refine blk_drewN ?_ _ | refine blk_drew ?_ | refine blk_alloc ?_ _)); exact BK375.out⟩, ⟨by repeat (first | (with_reducible first | exact HB.out | apply below_alloc | apply pw_below_drewN | apply below_drew1 | refine below_set ?_ GE357.out | refine below_set ?_ GE358.out | refine below_set ?_ GE375.out) | exact HB.out)⟩⟩
   case rest =>
    clear HC17
    try clear c1
    try clear c2
    try clear p2
    try clear c3
    try clear c4
    try clear c5
    try clear c5b0
    try clear c8
    try clear c10
    try clear c15
    try clear c17
    try clear c18
    try clear c20
    try clear c31
    try clear c32
    try clear c39
    try clear c39b0
    try clear c39b1
    try clear hcz21_0
    try clear hcz21_1
    try clear hcz21_2
    try clear hcz28_0
    try clear hcz28_1
    try clear hcz28_2
    try clear hcz33_0
    try clear hcz33_1
    try clear hcz33_2
    try clear hcz9_0
    try clear hcz9_1
    try clear hcz9_2
    try clear hfz21_0
    try clear hfz21_1
    try clear hfz21_2
    try clear hfz28_0
    try clear hfz28_1
    try clear hfz28_2
    try clear hfz33_0
    try clear hfz33_1
    try clear hfz33_2
    try clear hfz9_0
    try clear hfz9_1
    try clear hfz9_2
    obtain ⟨kq, x44_16, rfl, HA, HJ16, HO_376002, BK357, BK358, BK375, HB⟩ := hcut
    cases kq with
    | zero => exact absurd HA.out (by simp [laws_FnExactTileImage.j0])
    | succ kj16 =>
     have H := HA.out
     clear HA
     simp only [laws_FnExactTileImage.j0] at H
     by_cases c40 : x44_16 = true
     · subst c40
       have H1 : (some false) = some r := by rw [if_pos rfl] at H; exact H
       clear H
       have H := H1
       clear H1
       obtain rfl := Option.some.inj H
       go_wp2
       go_ret
       exact ⟨by first | rfl | (simp [errW_none, errW_some] <;> rfl) | (simp [*, errW_none, errW_some] <;> rfl), by repeat (first | (with_reducible first | exact HB.out | apply below_alloc | apply pw_below_drewN | apply below_drew1 | refine below_set ?_ GE357.out | refine below_set ?_ GE358.out | refine below_set ?_ GE375.out) | exact HB.out)⟩
     · replace c40 := Bool.eq_false_iff.mpr c40
       subst c40
       have H1 : ((laws_toTiling.f kj16 a0_0 a0_1 l0_2).bind fun bt381 => ((laws_eqTiling.f kj16 t370 t371 t372 bt381.1 bt381.2.1 bt381.2.2).bind fun t386 => (if t386 = true then (some true) else (some false)))) = some r := by rw [if_neg (show ¬ (false = true) by decide)] at H; exact H
       clear H
       have H := H1
       clear H1
       replace H := Option.bind_eq_some_iff.mp H
       obtain ⟨⟨t381, t382, t383⟩, A410, H⟩ := H
       replace H : ((laws_eqTiling.f kj16 t370 t371 t372 t381 t382 t383).bind fun t386 => (if t386 = true then (some true) else (some false))) = some r := H
       have A41 := mkA A410
       clear A410
       replace H := Option.bind_eq_some_iff.mp H
       obtain ⟨t386, A420, H⟩ := H
       replace H : (if t386 = true then (some true) else (some false)) = some r := H
       have A42 := mkA A420
       clear A420
       by_cases c43 : t386 = true
       · subst c43
         have H1 : (some true) = some r := by rw [if_pos rfl] at H; exact H
         clear H
         have H := H1
         clear H1
         obtain rfl := Option.some.inj H
         try go_wp2
         have n0_ := mkA (Kd.R_drew HO_376002.out)
         have n1_ := mkA (blk_drew BK357.out)
         have n2_ := mkA (blk_drew BK358.out)
         have n3_ := mkA (blk_drew BK375.out)
         have n4_ := mkA (below_drew1 HB.out)
         clear HO_376002
         clear BK357
         clear BK358
         clear BK375
         clear HB
         have HO_376002 := n0_
         have BK357 := n1_
         have BK358 := n2_
         have BK375 := n3_
         have HB := n4_
         clear n0_ n1_ n2_ n3_ n4_
         refine start_ (n := 5) (S := fun w' => w'.cell? ⟨gb375, 0, none⟩ = some (.int .i64 t370) ∧ w'.cell? ⟨gb375, 1, none⟩ = some (.int .i64 t371) ∧ w'.cell? ⟨gb375, 2, none⟩ = some (.slice Ao34 t372.length co34) ∧ w'.cell? ⟨gb357, 0, none⟩ = some (.int .i64 a0_0) ∧ w'.cell? ⟨gb357, 1, none⟩ = some (.int .i64 a0_1) ∧ w'.cell? ⟨gb357, 2, none⟩ = some (.slice A0_2 l0_2.length c0_2)) (ds := []) #[false, false, false, false, false] (by kernel_rfl) rfl rfl ⟨(blk_cell BK375.out 0).trans rfl, (blk_cell BK375.out 1).trans rfl, (blk_cell BK375.out 2).trans rfl, (blk_cell BK357.out 0).trans rfl, (blk_cell BK357.out 1).trans rfl, (blk_cell BK357.out 2).trans rfl⟩ (fun hHeld => ?_)
         generalize wc.drew = w44 at HO_376002 BK357 BK358 BK375 HB hHeld ⊢
         refine take_ (i := 0) (N := some 45) (v := ?_) (a' := ?_) #[true, false, false, false, false] rfl rfl (by kernel_rfl) (fun _ _ _ h => h) (Or.inl ⟨by rfl, ?_⟩) hHeld ?_ ?_
         rotate_left
         · rintro w' ⟨s0, s1, s2, s3, s4, s5⟩
           go_simp
           with_reducible rfl
         rotate_left
         · simp only [Act.put, sA, sB, sC, i64_w, i32_w]
           rfl
         refine take_ (i := 1) (N := some 46) (v := ?_) (a' := ?_) #[true, true, false, false, false] rfl rfl (by kernel_rfl) (fun _ _ _ h => h) (Or.inl ⟨by rfl, ?_⟩) hHeld ?_ ?_
         rotate_left
         · rintro w' ⟨s0, s1, s2, s3, s4, s5⟩
           go_simp
           with_reducible rfl
         rotate_left
         · simp only [Act.put, sA, sB, sC, i64_w, i32_w]
           rfl
         refine one_ (i := 2) (N := some 47) #[true, true, true, false, false] rfl rfl (by kernel_rfl) (by decide) (fun K hK => ?_)
         refine goes_ Try.func17 (by kernel_rfl) rfl #[.agg #[.int .i64 a0_0, .int .i64 a0_1, .slice A0_2 l0_2.length c0_2]] (by rfl) rfl rfl (by (try simp only [List.map_toArray, List.map_cons, List.map_nil]); first | done | rfl | (simp only [List.length_drop, List.length_take]; rfl)) ?_
         with_reducible refine (laws_toTiling.calls kj16 a0_0 a0_1 _ _ l0_2 t381 t382 t383 _ ?side1 ?side2 A41.out).mono ?_
         (case side1 => exact cb_ HR0_2.out HB.out)
         (case side2 => exact HC0_2.out)
         rintro e w45 ⟨v384, rfl, ho0, hb⟩
         refine ⟨_, rfl, ?_⟩
         have n0_ := mkA (Kd.R_elder' (by (with_reducible repeat (first | apply Kd.R_alloc | apply Kd.R_drewN | apply Kd.R_drew)); exact HO_376002.out) (Kd.R_base ho0) hb)
         have n1_ := mkA (Kd.R_lower (Kd.R_new' ho0 (Kd.R_lt (by (with_reducible repeat (first | apply Kd.R_alloc | apply Kd.R_drewN | apply Kd.R_drew)); exact HO_376002.out))) (below_size (bs3_ HB.out GE357.out GE358.out GE375.out)))
         have n2_ := mkA (blk_below (g := gb357) (o := .cells #[.int .i64 a0_0, .int .i64 a0_1, .slice A0_2 l0_2.length c0_2] 24 (0, 0)) (bl_ BK357.out) hb)
         have n3_ := mkA (blk_below (g := gb358) (o := .cells #[.int .i64 a1_0, .int .i64 a1_1, .int .i64 a1_2] 26 (0, 0)) (bl_ BK358.out) hb)
         have n4_ := mkA (blk_below (g := gb375) (o := .cells #[.int .i64 t370, .int .i64 t371, .slice Ao34 t372.length co34] 29 (0, 0)) (bl_ BK375.out) hb)
         have n5_ := mkA (below_step (bs3_ HB.out GE357.out GE358.out GE375.out) hb)
         clear HO_376002
         clear BK357
         clear BK358
         clear BK375
         clear HB
         have HO_376002 := n0_
         have HO385 := n1_
         have BK357 := n2_
         have BK358 := n3_
         have BK375 := n4_
         have HB := n5_
         clear n0_ n1_ n2_ n3_ n4_ n5_
         (try clear hb)
         (try clear hb2)
         (try clear hk)
         (try clear hi)
         (try clear ho0)
         obtain ⟨Ao46, co46, eo46⟩ := Kd.R_slice HO385.out
         (first | subst eo46 | (injection eo46 with f1_ f2_ f3_; have f4_ := f1_.symm; have f5_ := f3_.symm; clear f1_ f2_ f3_; subst f4_; subst f5_))
         refine hK.out _ _ ⟨(blk_cell BK375.out 0).trans rfl, (blk_cell BK375.out 1).trans rfl, (blk_cell BK375.out 2).trans rfl, (blk_cell BK357.out 0).trans rfl, (blk_cell BK357.out 1).trans rfl, (blk_cell BK357.out 2).trans rfl⟩ (fun hHeld => ?_)
         clear hK K
         refine norm_ (a' := ?_) ?_ ?_
         rotate_left
         · show Act.put _ (some 47) _ = _
           simp only [Act.put, sA, sB, sC, i64_w, i32_w]
           rfl
         refine one_ (i := 3) (N := some 48) #[true, true, true, true, false] rfl rfl (by kernel_rfl) (by decide) (fun K hK => ?_)
         refine goes_ Try.func20 (by kernel_rfl) rfl #[.agg #[.int .i64 t370, .int .i64 t371, .slice Ao34 t372.length co34], .agg #[.int .i64 t381, .int .i64 t382, .slice Ao46 t383.length co46]] (by rfl) rfl rfl (by (try simp only [List.map_toArray, List.map_cons, List.map_nil]); first | done | rfl | (simp only [List.length_drop, List.length_take]; rfl)) ?_
         with_reducible refine (laws_eqTiling.calls kj16 t370 t371 _ _ t372 t381 t382 _ _ t383 true _ ?side1 ?side2 ?side3 ?side4 A42.out).mono ?_
         (case side1 => repeat (first | exact (Kd.R_reads' HO_376002.out).2.2 | (with_reducible refine Kd.C_alloc ?_ _) | (with_reducible refine Kd.C_drewN ?_ _) | (with_reducible refine Kd.C_drew ?_)))
         (case side2 => exact (Kd.R_reads' HO_376002.out).2.1)
         (case side3 => repeat (first | exact (Kd.R_reads' HO385.out).2.2 | (with_reducible refine Kd.C_alloc ?_ _) | (with_reducible refine Kd.C_drewN ?_ _) | (with_reducible refine Kd.C_drew ?_)))
         (case side4 => exact (Kd.R_reads' HO385.out).2.1)
         rintro e w47 ⟨rfl, hb⟩
         refine ⟨_, rfl, ?_⟩
         have n0_ := mkA (Kd.R_below (by (with_reducible repeat (first | apply Kd.R_alloc | apply Kd.R_drewN | apply Kd.R_drew)); exact HO_376002.out) hb)
         have n1_ := mkA (Kd.R_below (by (with_reducible repeat (first | apply Kd.R_alloc | apply Kd.R_drewN | apply Kd.R_drew)); exact HO385.out) hb)
         have n2_ := mkA (blk_below (g := gb357) (o := .cells #[.int .i64 a0_0, .int .i64 a0_1, .slice A0_2 l0_2.length c0_2] 24 (0, 0)) (bl_ BK357.out) hb)
         have n3_ := mkA (blk_below (g := gb358) (o := .cells #[.int .i64 a1_0, .int .i64 a1_1, .int .i64 a1_2] 26 (0, 0)) (bl_ BK358.out) hb)
         have n4_ := mkA (blk_below (g := gb375) (o := .cells #[.int .i64 t370, .int .i64 t371, .slice Ao34 t372.length co34] 29 (0, 0)) (bl_ BK375.out) hb)
         have n5_ := mkA (below_step (bs3_ HB.out GE357.out GE358.out GE375.out) hb)
         clear HO_376002
         clear HO385
         clear BK357
         clear BK358
         clear BK375
         clear HB
         have HO_376002 := n0_
         have HO385 := n1_
         have BK357 := n2_
         have BK358 := n3_
         have BK375 := n4_
         have HB := n5_
         clear n0_ n1_ n2_ n3_ n4_ n5_
         (try clear hb)
         (try clear hb2)
         (try clear hk)
         (try clear hi)
         refine hK.out _ _ ⟨(blk_cell BK375.out 0).trans rfl, (blk_cell BK375.out 1).trans rfl, (blk_cell BK375.out 2).trans rfl, (blk_cell BK357.out 0).trans rfl, (blk_cell BK357.out 1).trans rfl, (blk_cell BK357.out 2).trans rfl⟩ (fun hHeld => ?_)
         clear hK K
         refine norm_ (a' := ?_) ?_ ?_
         rotate_left
         · show Act.put _ (some 48) _ = _
           simp only [Act.put, sA, sB, sC, i64_w, i32_w]
           rfl
         refine pure_ (i := 4) (N := some 49) (v := ?_) (a' := ?_) #[true, true, true, true, true] rfl rfl (by kernel_rfl) (fun _ _ _ h => h) (Or.inl ⟨by rfl, ?_⟩) ?_ ?_
         rotate_left
         · intro w'
           go_simp
           with_reducible rfl
         rotate_left
         · simp only [Act.put, sA, sB, sC, i64_w, i32_w]
           rfl
         refine done_ (by kernel_rfl) ?_
         try go_wp2
         go_ret
         exact ⟨by first | rfl | (simp [errW_none, errW_some] <;> rfl) | (simp [*, errW_none, errW_some] <;> rfl), by repeat (first | (with_reducible first | exact HB.out | apply below_alloc | apply pw_below_drewN | apply below_drew1 | refine below_set ?_ GE357.out | refine below_set ?_ GE358.out | refine below_set ?_ GE375.out) | exact HB.out)⟩
       · replace c43 := Bool.eq_false_iff.mpr c43
         subst c43
         have H1 : (some false) = some r := by rw [if_neg (show ¬ (false = true) by decide)] at H; exact H
         clear H
         have H := H1
         clear H1
         obtain rfl := Option.some.inj H
         try go_wp2
         have n0_ := mkA (Kd.R_drew HO_376002.out)
         have n1_ := mkA (blk_drew BK357.out)
         have n2_ := mkA (blk_drew BK358.out)
         have n3_ := mkA (blk_drew BK375.out)
         have n4_ := mkA (below_drew1 HB.out)
         clear HO_376002
         clear BK357
         clear BK358
         clear BK375
         clear HB
         have HO_376002 := n0_
         have BK357 := n1_
         have BK358 := n2_
         have BK375 := n3_
         have HB := n4_
         clear n0_ n1_ n2_ n3_ n4_
         refine start_ (n := 5) (S := fun w' => w'.cell? ⟨gb375, 0, none⟩ = some (.int .i64 t370) ∧ w'.cell? ⟨gb375, 1, none⟩ = some (.int .i64 t371) ∧ w'.cell? ⟨gb375, 2, none⟩ = some (.slice Ao34 t372.length co34) ∧ w'.cell? ⟨gb357, 0, none⟩ = some (.int .i64 a0_0) ∧ w'.cell? ⟨gb357, 1, none⟩ = some (.int .i64 a0_1) ∧ w'.cell? ⟨gb357, 2, none⟩ = some (.slice A0_2 l0_2.length c0_2)) (ds := []) #[false, false, false, false, false] (by kernel_rfl) rfl rfl ⟨(blk_cell BK375.out 0).trans rfl, (blk_cell BK375.out 1).trans rfl, (blk_cell BK375.out 2).trans rfl, (blk_cell BK357.out 0).trans rfl, (blk_cell BK357.out 1).trans rfl, (blk_cell BK357.out 2).trans rfl⟩ (fun hHeld => ?_)
         generalize wc.drew = w48 at HO_376002 BK357 BK358 BK375 HB hHeld ⊢
         refine take_ (i := 0) (N := some 45) (v := ?_) (a' := ?_) #[true, false, false, false, false] rfl rfl (by kernel_rfl) (fun _ _ _ h => h) (Or.inl ⟨by rfl, ?_⟩) hHeld ?_ ?_
         rotate_left
         · rintro w' ⟨s0, s1, s2, s3, s4, s5⟩
           go_simp
           with_reducible rfl
         rotate_left
         · simp only [Act.put, sA, sB, sC, i64_w, i32_w]
           rfl
         refine take_ (i := 1) (N := some 46) (v := ?_) (a' := ?_) #[true, true, false, false, false] rfl rfl (by kernel_rfl) (fun _ _ _ h => h) (Or.inl ⟨by rfl, ?_⟩) hHeld ?_ ?_
         rotate_left
         · rintro w' ⟨s0, s1, s2, s3, s4, s5⟩
           go_simp
           with_reducible rfl
         rotate_left
         · simp only [Act.put, sA, sB, sC, i64_w, i32_w]
           rfl
         refine one_ (i := 2) (N := some 47) #[true, true, true, false, false] rfl rfl (by kernel_rfl) (by decide) (fun K hK => ?_)
         refine goes_ Try.func17 (by kernel_rfl) rfl #[.agg #[.int .i64 a0_0, .int .i64 a0_1, .slice A0_2 l0_2.length c0_2]] (by rfl) rfl rfl (by (try simp only [List.map_toArray, List.map_cons, List.map_nil]); first | done | rfl | (simp only [List.length_drop, List.length_take]; rfl)) ?_
         with_reducible refine (laws_toTiling.calls kj16 a0_0 a0_1 _ _ l0_2 t381 t382 t383 _ ?side1 ?side2 A41.out).mono ?_
         (case side1 => exact cb_ HR0_2.out HB.out)
         (case side2 => exact HC0_2.out)
         rintro e w49 ⟨v384, rfl, ho0, hb⟩
         refine ⟨_, rfl, ?_⟩
         have n0_ := mkA (Kd.R_elder' (by (with_reducible repeat (first | apply Kd.R_alloc | apply Kd.R_drewN | apply Kd.R_drew)); exact HO_376002.out) (Kd.R_base ho0) hb)
         have n1_ := mkA (Kd.R_lower (Kd.R_new' ho0 (Kd.R_lt (by (with_reducible repeat (first | apply Kd.R_alloc | apply Kd.R_drewN | apply Kd.R_drew)); exact HO_376002.out))) (below_size (bs3_ HB.out GE357.out GE358.out GE375.out)))
         have n2_ := mkA (blk_below (g := gb357) (o := .cells #[.int .i64 a0_0, .int .i64 a0_1, .slice A0_2 l0_2.length c0_2] 24 (0, 0)) (bl_ BK357.out) hb)
         have n3_ := mkA (blk_below (g := gb358) (o := .cells #[.int .i64 a1_0, .int .i64 a1_1, .int .i64 a1_2] 26 (0, 0)) (bl_ BK358.out) hb)
         have n4_ := mkA (blk_below (g := gb375) (o := .cells #[.int .i64 t370, .int .i64 t371, .slice Ao34 t372.length co34] 29 (0, 0)) (bl_ BK375.out) hb)
         have n5_ := mkA (below_step (bs3_ HB.out GE357.out GE358.out GE375.out) hb)
         clear HO_376002
         clear BK357
         clear BK358
         clear BK375
         clear HB
         have HO_376002 := n0_
         have HO385 := n1_
         have BK357 := n2_
         have BK358 := n3_
         have BK375 := n4_
         have HB := n5_
         clear n0_ n1_ n2_ n3_ n4_ n5_
         (try clear hb)
         (try clear hb2)
         (try clear hk)
         (try clear hi)
         (try clear ho0)
         obtain ⟨Ao50, co50, eo50⟩ := Kd.R_slice HO385.out
         (first | subst eo50 | (injection eo50 with f1_ f2_ f3_; have f4_ := f1_.symm; have f5_ := f3_.symm; clear f1_ f2_ f3_; subst f4_; subst f5_))
         refine hK.out _ _ ⟨(blk_cell BK375.out 0).trans rfl, (blk_cell BK375.out 1).trans rfl, (blk_cell BK375.out 2).trans rfl, (blk_cell BK357.out 0).trans rfl, (blk_cell BK357.out 1).trans rfl, (blk_cell BK357.out 2).trans rfl⟩ (fun hHeld => ?_)
         clear hK K
         refine norm_ (a' := ?_) ?_ ?_
         rotate_left
         · show Act.put _ (some 47) _ = _
           simp only [Act.put, sA, sB, sC, i64_w, i32_w]
           rfl
         refine one_ (i := 3) (N := some 48) #[true, true, true, true, false] rfl rfl (by kernel_rfl) (by decide) (fun K hK => ?_)
         refine goes_ Try.func20 (by kernel_rfl) rfl #[.agg #[.int .i64 t370, .int .i64 t371, .slice Ao34 t372.length co34], .agg #[.int .i64 t381, .int .i64 t382, .slice Ao50 t383.length co50]] (by rfl) rfl rfl (by (try simp only [List.map_toArray, List.map_cons, List.map_nil]); first | done | rfl | (simp only [List.length_drop, List.length_take]; rfl)) ?_
         with_reducible refine (laws_eqTiling.calls kj16 t370 t371 _ _ t372 t381 t382 _ _ t383 false _ ?side1 ?side2 ?side3 ?side4 A42.out).mono ?_
         (case side1 => repeat (first | exact (Kd.R_reads' HO_376002.out).2.2 | (with_reducible refine Kd.C_alloc ?_ _) | (with_reducible refine Kd.C_drewN ?_ _) | (with_reducible refine Kd.C_drew ?_)))
         (case side2 => exact (Kd.R_reads' HO_376002.out).2.1)
         (case side3 => repeat (first | exact (Kd.R_reads' HO385.out).2.2 | (with_reducible refine Kd.C_alloc ?_ _) | (with_reducible refine Kd.C_drewN ?_ _) | (with_reducible refine Kd.C_drew ?_)))
         (case side4 => exact (Kd.R_reads' HO385.out).2.1)
         rintro e w51 ⟨rfl, hb⟩
         refine ⟨_, rfl, ?_⟩
         have n0_ := mkA (Kd.R_below (by (with_reducible repeat (first | apply Kd.R_alloc | apply Kd.R_drewN | apply Kd.R_drew)); exact HO_376002.out) hb)
         have n1_ := mkA (Kd.R_below (by (with_reducible repeat (first | apply Kd.R_alloc | apply Kd.R_drewN | apply Kd.R_drew)); exact HO385.out) hb)
         have n2_ := mkA (blk_below (g := gb357) (o := .cells #[.int .i64 a0_0, .int .i64 a0_1, .slice A0_2 l0_2.length c0_2] 24 (0, 0)) (bl_ BK357.out) hb)
         have n3_ := mkA (blk_below (g := gb358) (o := .cells #[.int .i64 a1_0, .int .i64 a1_1, .int .i64 a1_2] 26 (0, 0)) (bl_ BK358.out) hb)
         have n4_ := mkA (blk_below (g := gb375) (o := .cells #[.int .i64 t370, .int .i64 t371, .slice Ao34 t372.length co34] 29 (0, 0)) (bl_ BK375.out) hb)
         have n5_ := mkA (below_step (bs3_ HB.out GE357.out GE358.out GE375.out) hb)
         clear HO_376002
         clear HO385
         clear BK357
         clear BK358
         clear BK375
         clear HB
         have HO_376002 := n0_
         have HO385 := n1_
         have BK357 := n2_
         have BK358 := n3_
         have BK375 := n4_
         have HB := n5_
         clear n0_ n1_ n2_ n3_ n4_ n5_
         (try clear hb)
         (try clear hb2)
         (try clear hk)
         (try clear hi)
         refine hK.out _ _ ⟨(blk_cell BK375.out 0).trans rfl, (blk_cell BK375.out 1).trans rfl, (blk_cell BK375.out 2).trans rfl, (blk_cell BK357.out 0).trans rfl, (blk_cell BK357.out 1).trans rfl, (blk_cell BK357.out 2).trans rfl⟩ (fun hHeld => ?_)
         clear hK K
         refine norm_ (a' := ?_) ?_ ?_
         rotate_left
         · show Act.put _ (some 48) _ = _
           simp only [Act.put, sA, sB, sC, i64_w, i32_w]
           rfl
         refine pure_ (i := 4) (N := some 49) (v := ?_) (a' := ?_) #[true, true, true, true, true] rfl rfl (by kernel_rfl) (fun _ _ _ h => h) (Or.inl ⟨by rfl, ?_⟩) ?_ ?_
         rotate_left
         · intro w'
           go_simp
           with_reducible rfl
         rotate_left
         · simp only [Act.put, sA, sB, sC, i64_w, i32_w]
           rfl
         refine done_ (by kernel_rfl) ?_
         try go_wp2
         go_ret
         exact ⟨by first | rfl | (simp [errW_none, errW_some] <;> rfl) | (simp [*, errW_none, errW_some] <;> rfl), by repeat (first | (with_reducible first | exact HB.out | apply below_alloc | apply pw_below_drewN | apply below_drew1 | refine below_set ?_ GE357.out | refine below_set ?_ GE358.out | refine below_set ?_ GE375.out) | exact HB.out)⟩
def G24 (x : S24) : Prop := (Lit.int .i64 x.f0).wf = true ∧ (Lit.int .i64 x.f1).wf = true ∧ (x.f2.length ≤ maxLen ∧ ∀ y0 ∈ x.f2, (Lit.int .i64 y0).wf = true)
def G26 (x : S26) : Prop := (Lit.int .i64 x.f0).wf = true ∧ (Lit.int .i64 x.f1).wf = true ∧ (Lit.int .i64 x.f2).wf = true

/-- THE ONE PURE STATEMENT of laws_FnExactTileImage. -/
def laws_FnExactTileImage.Pure : Prop := ∀ (a0_0 : Int) (a0_1 : Int) (l0_2 : List Int) (a1_0 : Int) (a1_1 : Int) (a1_2 : Int) (a2 : Int), G24 (⟨a0_0, a0_1, l0_2⟩ : S24) → G26 (⟨a1_0, a1_1, a1_2⟩ : S26) → (Lit.int .i64 a2).wf = true → ∃ k, laws_FnExactTileImage.f k a0_0 a0_1 l0_2 a1_0 a1_1 a1_2 a2 = some true

end Go.Proofs.Ytnidibnhojedoaa.GFnExactTileImage
