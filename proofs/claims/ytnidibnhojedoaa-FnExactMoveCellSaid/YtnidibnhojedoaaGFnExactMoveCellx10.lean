-- Written by the session's own program (gen.py) out of the translation's print. Lean checks it.
import Derived.Test.YtnidibnhojedoaaGFnExactMoveCellx0
import Derived.Test.YtnidibnhojedoaaGFnExactMoveCellx1
import Derived.Test.YtnidibnhojedoaaGFnExactMoveCellx6
import Derived.Test.YtnidibnhojedoaaGFnExactMoveCellx9
namespace Go.Proofs.Ytnidibnhojedoaa.GFnExactMoveCell
open Go.RowKit Go.Proofs.YtnidibnhojedoaaW.PrintWords Go.Proofs.YtnidibnhojedoaaW.PrintLast Go.Proofs.YtnidibnhojedoaaW.PrintMore
attribute [local go_sem] max2_int min2_int max_two min_two max_three min_three max_four min_four   -- for this text's walks alone
set_option linter.unusedVariables false
set_option linter.unusedSimpArgs false

/-! ### laws_FnExactMoveCell: function 4 -/
def laws_FnExactMoveCell.j0 : Nat → Bool → Int → Int → List Int → Int → Int → List Int → Option (Bool)
  | 0, _, _, _, _, _, _, _ => none
  | k + 1, x57, x279000, x279001, x279002, x298000, x298001, x298002 => if x57 = true then (some false) else ((laws_toTiling.f k x279000 x279001 x279002).bind fun bt304 => ((laws_eqTiling.f k x298000 x298001 x298002 bt304.1 bt304.2.1 bt304.2.2).bind fun t309 => (if t309 = true then (some true) else (some false))))
def laws_FnExactMoveCell.f (k : Nat) (a0_0 : Int) (a0_1 : Int) (l0_2 : List Int) (a1_0 : Int) (a1_1 : Int) (a1_2 : Int) (a2 : Int) (a3 : Int) : Option (Bool) := (laws_szTiling.f a0_0 a0_1 l0_2 1048576).bind fun t280 => (if t280 < 0 then (some true) else ((laws_toTiling.f k a0_0 a0_1 l0_2).bind fun bt281 => ((laws_toMotion.f a1_0 a1_1 a1_2).bind fun bt286 => ((spec_MoveCell.f k bt281.1 bt281.2.1 bt281.2.2 bt286.1 bt286.2.1 bt286.2.2 a2 a3).bind fun bt289 => ((laws_toTiling.f k a0_0 a0_1 l0_2).bind fun bt292 => ((laws_toMotion.f a1_0 a1_1 a1_2).bind fun bt298 => ((impl_MoveCell.f k bt292.1 bt292.2.1 bt292.2.2 bt298.1 bt298.2.1 bt298.2.2 a2 a3).bind fun bt301 => (if bt301.1 = bt289.1 then (if bt301.2.1 = bt289.2.1 then (laws_FnExactMoveCell.j0 k (bt301.2.2 != bt289.2.2) a0_0 a0_1 l0_2 bt292.1 bt292.2.1 bt292.2.2) else (laws_FnExactMoveCell.j0 k true a0_0 a0_1 l0_2 bt292.1 bt292.2.1 bt292.2.2)) else (laws_FnExactMoveCell.j0 k true a0_0 a0_1 l0_2 bt292.1 bt292.2.1 bt292.2.2)))))))))
theorem laws_FnExactMoveCell.mono_l : ∀ k, (∀ y0 y1 y2 y3 y4 y5 y6, LeO (laws_FnExactMoveCell.j0 k y0 y1 y2 y3 y4 y5 y6) (laws_FnExactMoveCell.j0 (k + 1) y0 y1 y2 y3 y4 y5 y6))
  | 0 => fun _ _ _ _ _ _ _ r h => by simp [laws_FnExactMoveCell.j0] at h
  | k + 1 => by
    have ih0 := laws_FnExactMoveCell.mono_l k
    · intro y0 y1 y2 y3 y4 y5 y6
      unfold laws_FnExactMoveCell.j0
      repeat' first
      | (with_reducible exact ih0 _ _ _ _ _ _ _)
      | (with_reducible exact impl_MoveCell.mono _ _ _ _ _ _ _ _ _)
      | (with_reducible exact laws_eqTiling.mono _ _ _ _ _ _ _)
      | (with_reducible exact laws_toTiling.mono _ _ _ _)
      | (with_reducible exact spec_MoveCell.mono _ _ _ _ _ _ _ _ _)
      | (with_reducible exact LeO.refl _)
      | (with_reducible exact LeO.none _)
      | (with_reducible refine LeO.ite ?_ ?_)
      | (with_reducible refine LeO.bind ?_ (fun _ => ?_))
      | exact ih0 _ _ _ _ _ _ _
      | exact impl_MoveCell.mono _ _ _ _ _ _ _ _ _
      | exact laws_eqTiling.mono _ _ _ _ _ _ _
      | exact laws_toTiling.mono _ _ _ _
      | exact spec_MoveCell.mono _ _ _ _ _ _ _ _ _
      | exact LeO.none _
      | refine LeO.ite ?_ ?_
      | refine LeO.bind ?_ (fun _ => ?_)
theorem laws_FnExactMoveCell.mono : ∀ a0 a1 a2 a3 a4 a5 a6 a7 k, LeO (laws_FnExactMoveCell.f k a0 a1 a2 a3 a4 a5 a6 a7) (laws_FnExactMoveCell.f (k + 1) a0 a1 a2 a3 a4 a5 a6 a7) := by
  intro a0 a1 a2 a3 a4 a5 a6 a7 k
  have ih0 := laws_FnExactMoveCell.mono_l k
  unfold laws_FnExactMoveCell.f
  repeat' first
      | (with_reducible exact ih0 _ _ _ _ _ _ _)
      | (with_reducible exact impl_MoveCell.mono _ _ _ _ _ _ _ _ _)
      | (with_reducible exact laws_eqTiling.mono _ _ _ _ _ _ _)
      | (with_reducible exact laws_toTiling.mono _ _ _ _)
      | (with_reducible exact spec_MoveCell.mono _ _ _ _ _ _ _ _ _)
      | (with_reducible exact LeO.refl _)
      | (with_reducible exact LeO.none _)
      | (with_reducible refine LeO.ite ?_ ?_)
      | (with_reducible refine LeO.bind ?_ (fun _ => ?_))
      | exact ih0 _ _ _ _ _ _ _
      | exact impl_MoveCell.mono _ _ _ _ _ _ _ _ _
      | exact laws_eqTiling.mono _ _ _ _ _ _ _
      | exact laws_toTiling.mono _ _ _ _
      | exact spec_MoveCell.mono _ _ _ _ _ _ _ _ _
      | exact LeO.none _
      | refine LeO.ite ?_ ?_
      | refine LeO.bind ?_ (fun _ => ?_)
def laws_FnExactMoveCell.T5 : Bool × List (List Nat × List Nat) := (true, [([], []), ([0], [0]), ([], []), ([2, 1], [2]), ([], []), ([], []), ([1, 3, 4, 5, 3], [1, 3, 4, 5]), ([6], [6]), ([7], [7]), ([7], [7]), ([7], [7]), ([8, 6, 0, 1, 2, 3, 4, 5, 6, 7, 8], [8]), ([9, 11, 0, 1, 2, 3, 4, 5, 6, 7, 8, 9, 11], [9]), ([10, 12, 0, 1, 2, 3, 4, 5, 6, 7, 8, 9, 10, 11, 12], [10])])
def laws_FnExactMoveCell.B5 : List Nat := [0, 1, 0, 7, 0, 0, 63, 127, 255, 255, 255, 511, 3071, 8191]
theorem laws_FnExactMoveCell.tab5 : rtab .any (opsOf Try.f4 5) = laws_FnExactMoveCell.T5 := by kernel_rfl
theorem laws_FnExactMoveCell.bits5 : waitsOk laws_FnExactMoveCell.T5.2 laws_FnExactMoveCell.B5 = true := by kernel_rfl
def laws_FnExactMoveCell.T7 : Bool × List (List Nat × List Nat) := (true, [([], []), ([], []), ([1], [1]), ([], []), ([], []), ([0, 2, 3, 4, 2], [0, 2, 3, 4]), ([5], [5]), ([6], [6]), ([6], [6]), ([6], [6]), ([7, 5, 0, 1, 2, 3, 4, 5, 6, 7], [7]), ([8, 10, 0, 1, 2, 3, 4, 5, 6, 7, 8, 10], [8]), ([9, 11, 0, 1, 2, 3, 4, 5, 6, 7, 8, 9, 10, 11], [9])])
def laws_FnExactMoveCell.B7 : List Nat := [0, 0, 2, 0, 0, 31, 63, 127, 127, 127, 255, 1535, 4095]
theorem laws_FnExactMoveCell.tab7 : rtab .any (opsOf Try.f4 7) = laws_FnExactMoveCell.T7 := by kernel_rfl
theorem laws_FnExactMoveCell.bits7 : waitsOk laws_FnExactMoveCell.T7.2 laws_FnExactMoveCell.B7 = true := by kernel_rfl
open List renaming setIfInBounds_toArray → sA, set_cons_zero → sB, set_cons_succ → sC
open Go.Proofs.YtnidibnhojedoaaW.PrintWords.Aside0 renaming mk → mkA
open Go.Proofs.YtnidibnhojedoaaX (bc_ p0_ p1_ bl_ cb_ bs0_ bs1_ bs2_ bs3_ bs4_ bs5_ bs6_ bs7_ bs8_ bs9_ bs10_ bs11_ bs12_)
abbrev laws_FnExactMoveCell.d0 : Array Bool := #[false, false, false, false, false, false, false, false, false, false, false, false, false, false]
abbrev laws_FnExactMoveCell.d1 : Array Bool := #[false, false, false, false, true, false, false, false, false, false, false, false, false, false]
abbrev laws_FnExactMoveCell.d2 : Array Bool := #[false, false, false, false, true, true, false, false, false, false, false, false, false, false]
abbrev laws_FnExactMoveCell.d3 : Array Bool := #[true, false, false, false, true, true, false, false, false, false, false, false, false, false]
abbrev laws_FnExactMoveCell.d4 : Array Bool := #[true, false, true, false, true, true, false, false, false, false, false, false, false, false]
abbrev laws_FnExactMoveCell.d5 : Array Bool := #[true, true, true, false, true, true, false, false, false, false, false, false, false, false]
abbrev laws_FnExactMoveCell.d6 : Array Bool := #[true, true, true, true, true, true, false, false, false, false, false, false, false, false]
abbrev laws_FnExactMoveCell.d7 : Array Bool := #[true, true, true, true, true, true, true, false, false, false, false, false, false, false]
abbrev laws_FnExactMoveCell.d8 : Array Bool := #[true, true, true, true, true, true, true, true, false, false, false, false, false, false]
abbrev laws_FnExactMoveCell.d9 : Array Bool := #[true, true, true, true, true, true, true, true, true, false, false, false, false, false]
abbrev laws_FnExactMoveCell.d10 : Array Bool := #[true, true, true, true, true, true, true, true, true, true, false, false, false, false]
abbrev laws_FnExactMoveCell.d11 : Array Bool := #[true, true, true, true, true, true, true, true, true, true, true, false, false, false]
abbrev laws_FnExactMoveCell.d12 : Array Bool := #[true, true, true, true, true, true, true, true, true, true, true, true, false, false]
abbrev laws_FnExactMoveCell.d13 : Array Bool := #[true, true, true, true, true, true, true, true, true, true, true, true, true, false]
abbrev laws_FnExactMoveCell.d14 : Array Bool := #[true, true, true, true, true, true, true, true, true, true, true, true, true, true]
abbrev laws_FnExactMoveCell.d15 : Array Bool := #[false, false, false, false, false, false, false, false, false, false, false, false, false]
abbrev laws_FnExactMoveCell.d16 : Array Bool := #[false, false, false, true, false, false, false, false, false, false, false, false, false]
abbrev laws_FnExactMoveCell.d17 : Array Bool := #[false, false, false, true, true, false, false, false, false, false, false, false, false]
abbrev laws_FnExactMoveCell.d18 : Array Bool := #[true, false, false, true, true, false, false, false, false, false, false, false, false]
abbrev laws_FnExactMoveCell.d19 : Array Bool := #[true, true, false, true, true, false, false, false, false, false, false, false, false]
abbrev laws_FnExactMoveCell.d20 : Array Bool := #[true, true, true, true, true, false, false, false, false, false, false, false, false]
abbrev laws_FnExactMoveCell.d21 : Array Bool := #[true, true, true, true, true, true, false, false, false, false, false, false, false]
abbrev laws_FnExactMoveCell.d22 : Array Bool := #[true, true, true, true, true, true, true, false, false, false, false, false, false]
abbrev laws_FnExactMoveCell.d23 : Array Bool := #[true, true, true, true, true, true, true, true, false, false, false, false, false]
abbrev laws_FnExactMoveCell.d24 : Array Bool := #[true, true, true, true, true, true, true, true, true, false, false, false, false]
abbrev laws_FnExactMoveCell.d25 : Array Bool := #[true, true, true, true, true, true, true, true, true, true, false, false, false]
abbrev laws_FnExactMoveCell.d26 : Array Bool := #[true, true, true, true, true, true, true, true, true, true, true, false, false]
abbrev laws_FnExactMoveCell.d27 : Array Bool := #[true, true, true, true, true, true, true, true, true, true, true, true, false]
abbrev laws_FnExactMoveCell.d28 : Array Bool := #[true, true, true, true, true, true, true, true, true, true, true, true, true]
set_option maxHeartbeats 8000000 in
set_option maxRecDepth 100000 in
theorem laws_FnExactMoveCell.calls (k : Nat) (a0_0 : Int) (a0_1 : Int) (A0_2 : Option Addr) (c0_2 : Nat) (l0_2 : List Int) (a1_0 : Int) (a1_1 : Int) (a1_2 : Int) (a2 : Int) (a3 : Int) (r : Bool) (w : World) (hr0_2 : Kd.C (Kd.int .i64) w A0_2 l0_2.length l0_2) (hc0_2 : l0_2.length ≤ c0_2) (h : laws_FnExactMoveCell.f k a0_0 a0_1 l0_2 a1_0 a1_1 a1_2 a2 a3 = some r) :
 Calls Try.prog 4 #[.agg #[.int .i64 a0_0, .int .i64 a0_1, .slice A0_2 l0_2.length c0_2], .agg #[.int .i64 a1_0, .int .i64 a1_1, .int .i64 a1_2], .int .i64 a2, .int .i64 a3] w fun e w' => e = .returned (.bool r) ∧ Below w.heap.size w w' := by
 have hu24 := Try.underlying24
 have hu26 := Try.underlying26
 have hu29 := Try.underlying29
 have HR0_2 := mkA hr0_2
 have HC0_2 := mkA hc0_2
 clear hr0_2 hc0_2
 have HB := mkA (Below.refl w.heap.size w)
 have H : ((laws_szTiling.f a0_0 a0_1 l0_2 1048576).bind fun t280 => (if t280 < 0 then (some true) else ((laws_toTiling.f k a0_0 a0_1 l0_2).bind fun bt281 => ((laws_toMotion.f a1_0 a1_1 a1_2).bind fun bt286 => ((spec_MoveCell.f k bt281.1 bt281.2.1 bt281.2.2 bt286.1 bt286.2.1 bt286.2.2 a2 a3).bind fun bt289 => ((laws_toTiling.f k a0_0 a0_1 l0_2).bind fun bt292 => ((laws_toMotion.f a1_0 a1_1 a1_2).bind fun bt298 => ((impl_MoveCell.f k bt292.1 bt292.2.1 bt292.2.2 bt298.1 bt298.2.1 bt298.2.2 a2 a3).bind fun bt301 => (if bt301.1 = bt289.1 then (if bt301.2.1 = bt289.2.1 then (laws_FnExactMoveCell.j0 k (bt301.2.2 != bt289.2.2) a0_0 a0_1 l0_2 bt292.1 bt292.2.1 bt292.2.2) else (laws_FnExactMoveCell.j0 k true a0_0 a0_1 l0_2 bt292.1 bt292.2.1 bt292.2.2)) else (laws_FnExactMoveCell.j0 k true a0_0 a0_1 l0_2 bt292.1 bt292.2.1 bt292.2.2)))))))))) = some r := h
 clear h
 replace H := Option.bind_eq_some_iff.mp H
 obtain ⟨t280, A50, H⟩ := H
 replace H : (if t280 < 0 then (some true) else ((laws_toTiling.f k a0_0 a0_1 l0_2).bind fun bt281 => ((laws_toMotion.f a1_0 a1_1 a1_2).bind fun bt286 => ((spec_MoveCell.f k bt281.1 bt281.2.1 bt281.2.2 bt286.1 bt286.2.1 bt286.2.2 a2 a3).bind fun bt289 => ((laws_toTiling.f k a0_0 a0_1 l0_2).bind fun bt292 => ((laws_toMotion.f a1_0 a1_1 a1_2).bind fun bt298 => ((impl_MoveCell.f k bt292.1 bt292.2.1 bt292.2.2 bt298.1 bt298.2.1 bt298.2.2 a2 a3).bind fun bt301 => (if bt301.1 = bt289.1 then (if bt301.2.1 = bt289.2.1 then (laws_FnExactMoveCell.j0 k (bt301.2.2 != bt289.2.2) a0_0 a0_1 l0_2 bt292.1 bt292.2.1 bt292.2.2) else (laws_FnExactMoveCell.j0 k true a0_0 a0_1 l0_2 bt292.1 bt292.2.1 bt292.2.2)) else (laws_FnExactMoveCell.j0 k true a0_0 a0_1 l0_2 bt292.1 bt292.2.1 bt292.2.2))))))))) = some r := H
 have A5 := mkA A50
 clear A50
 by_cases c6 : t280 < 0
 · rw [if_pos c6] at H
   have c6b0 : decide (t280 < 0) = true := decide_eq_true c6
   clear c6
   obtain rfl := Option.some.inj H
   go_enter Try.func4, Try.ntmps4
   go_wp2_with (first | ((with_reducible refine gate_dst (N := 4) rfl ?_); refine box_event ?hg (N := 4) ?hd (cs := #[.int .i64 a0_0, .int .i64 a0_1, .slice A0_2 l0_2.length c0_2]) (t := 24) ?hr ?_; (case hd => rfl); (case hg => rfl); (case hr => first | (go_simp; done) | (go_simp; rfl)); intro gb278 hg w7 hbox hb; have n0_ := mkA (below_step (bs0_ HB.out) hb); have n1_ := mkA (hbox); have n2_ := mkA ((by rw [hg]; exact (below_size (bs0_ HB.out)) : w.heap.size ≤ gb278)); have n3_ := mkA ((by rw [hg]; exact (below_size (bs0_ HB.out)) : w.heap.size ≤ gb278)); clear HB; have HB := n0_; have BK278 := n1_; have GW278 := n2_; have GE278 := n3_; clear n0_ n1_ n2_ n3_; clear hb hbox hg) | ((with_reducible refine gate_dst (N := 5) rfl ?_); refine box_event ?hg (N := 5) ?hd (cs := #[.int .i64 a1_0, .int .i64 a1_1, .int .i64 a1_2]) (t := 26) ?hr ?_; (case hd => rfl); (case hg => rfl); (case hr => first | (go_simp; done) | (go_simp; rfl)); intro gb279 hg w8 hbox hb; have n0_ := mkA (blk_below (g := gb278) (o := .cells #[.int .i64 a0_0, .int .i64 a0_1, .slice A0_2 l0_2.length c0_2] 24 (0, 0)) (bl_ BK278.out) hb); have n1_ := mkA (below_step (bs1_ HB.out GE278.out) hb); have n2_ := mkA (hbox); have n3_ := mkA ((by rw [hg]; exact (below_size (bs1_ HB.out GE278.out)) : w.heap.size ≤ gb279)); have n4_ := mkA ((by rw [hg]; exact (below_size (bs1_ HB.out GE278.out)) : w.heap.size ≤ gb279)); have n5_ := mkA ((by rw [hg]; exact Nat.ne_of_lt (blk_lt (g := gb278) (o := .cells #[.int .i64 a0_0, .int .i64 a0_1, .slice A0_2 l0_2.length c0_2] 24 (0, 0)) (bl_ BK278.out)) : gb278 ≠ gb279)); have n6_ := mkA ((by rw [hg]; exact Nat.ne_of_gt (blk_lt (g := gb278) (o := .cells #[.int .i64 a0_0, .int .i64 a0_1, .slice A0_2 l0_2.length c0_2] 24 (0, 0)) (bl_ BK278.out)) : gb279 ≠ gb278)); clear BK278; clear HB; have BK278 := n0_; have HB := n1_; have BK279 := n2_; have GW279 := n3_; have GE279 := n4_; have NB278_279 := n5_; have NB279_278 := n6_; clear n0_ n1_ n2_ n3_ n4_ n5_ n6_; clear hb hbox hg; have hnb9 := NB278_279.out; have hnc9 := NB279_278.out; have hcz10_0 : w8.cell? ⟨gb278, 0, none⟩ = some (.int .i64 a0_0) := (blk_cell BK278.out 0).trans rfl; have hcz10_1 : w8.cell? ⟨gb278, 1, none⟩ = some (.int .i64 a0_1) := (blk_cell BK278.out 1).trans rfl; have hcz10_2 : w8.cell? ⟨gb278, 2, none⟩ = some (.slice A0_2 l0_2.length c0_2) := (blk_cell BK278.out 2).trans rfl; have hfz10_0 := blk_frozen BK278.out 0; have hfz10_1 := blk_frozen BK278.out 1; have hfz10_2 := blk_frozen BK278.out 2) | ((with_reducible refine gate_callee (f := 15) rfl ?_); refine goesL_ (some 19) rfl rfl Try.func15 (by kernel_rfl) rfl #[.agg #[.int .i64 a0_0, .int .i64 a0_1, .slice A0_2 l0_2.length c0_2], .int .i64 1048576] rfl (by (try simp only [List.map_toArray, List.map_cons, List.map_nil]); first | done | rfl | (simp only [List.length_drop, List.length_take]; rfl)) ?_; (with_reducible refine (laws_szTiling.calls a0_0 a0_1 _ _ l0_2 1048576 t280 _ ?side1 ?side2 A5.out).mono ?_); (case side1 => exact cb_ HR0_2.out HB.out); (case side2 => exact HC0_2.out); rintro e w11 ⟨rfl, hb⟩; refine ⟨_, rfl, ?_⟩; have n0_ := mkA (blk_below (g := gb278) (o := .cells #[.int .i64 a0_0, .int .i64 a0_1, .slice A0_2 l0_2.length c0_2] 24 (0, 0)) (bl_ BK278.out) hb); have n1_ := mkA (blk_below (g := gb279) (o := .cells #[.int .i64 a1_0, .int .i64 a1_1, .int .i64 a1_2] 26 (0, 0)) (bl_ BK279.out) hb); have n2_ := mkA (below_step (bs2_ HB.out GE278.out GE279.out) hb); clear BK278; clear BK279; clear HB; have BK278 := n0_; have BK279 := n1_; have HB := n2_; clear n0_ n1_ n2_; (try clear hb); (try clear hb2); (try clear hk); (try clear hi)))
   go_ret
   exact ⟨by first | rfl | (simp [errW_none, errW_some] <;> rfl) | (simp [*, errW_none, errW_some] <;> rfl), by repeat (first | (with_reducible first | exact HB.out | apply below_alloc | apply pw_below_drewN | apply below_drew1 | refine below_set ?_ GE278.out | refine below_set ?_ GE279.out) | exact HB.out)⟩
 · rw [if_neg c6] at H
   have c6b0 : decide (t280 < 0) = false := decide_eq_false c6
   clear c6
   replace H := Option.bind_eq_some_iff.mp H
   obtain ⟨⟨t281, t282, t283⟩, A120, H⟩ := H
   replace H : ((laws_toMotion.f a1_0 a1_1 a1_2).bind fun bt286 => ((spec_MoveCell.f k t281 t282 t283 bt286.1 bt286.2.1 bt286.2.2 a2 a3).bind fun bt289 => ((laws_toTiling.f k a0_0 a0_1 l0_2).bind fun bt292 => ((laws_toMotion.f a1_0 a1_1 a1_2).bind fun bt298 => ((impl_MoveCell.f k bt292.1 bt292.2.1 bt292.2.2 bt298.1 bt298.2.1 bt298.2.2 a2 a3).bind fun bt301 => (if bt301.1 = bt289.1 then (if bt301.2.1 = bt289.2.1 then (laws_FnExactMoveCell.j0 k (bt301.2.2 != bt289.2.2) a0_0 a0_1 l0_2 bt292.1 bt292.2.1 bt292.2.2) else (laws_FnExactMoveCell.j0 k true a0_0 a0_1 l0_2 bt292.1 bt292.2.1 bt292.2.2)) else (laws_FnExactMoveCell.j0 k true a0_0 a0_1 l0_2 bt292.1 bt292.2.1 bt292.2.2))))))) = some r := H
   have A12 := mkA A120
   clear A120
   replace H := Option.bind_eq_some_iff.mp H
   obtain ⟨⟨t286, t287, t288⟩, A130, H⟩ := H
   replace H : ((spec_MoveCell.f k t281 t282 t283 t286 t287 t288 a2 a3).bind fun bt289 => ((laws_toTiling.f k a0_0 a0_1 l0_2).bind fun bt292 => ((laws_toMotion.f a1_0 a1_1 a1_2).bind fun bt298 => ((impl_MoveCell.f k bt292.1 bt292.2.1 bt292.2.2 bt298.1 bt298.2.1 bt298.2.2 a2 a3).bind fun bt301 => (if bt301.1 = bt289.1 then (if bt301.2.1 = bt289.2.1 then (laws_FnExactMoveCell.j0 k (bt301.2.2 != bt289.2.2) a0_0 a0_1 l0_2 bt292.1 bt292.2.1 bt292.2.2) else (laws_FnExactMoveCell.j0 k true a0_0 a0_1 l0_2 bt292.1 bt292.2.1 bt292.2.2)) else (laws_FnExactMoveCell.j0 k true a0_0 a0_1 l0_2 bt292.1 bt292.2.1 bt292.2.2)))))) = some r := H
   have A13 := mkA A130
   clear A130
   replace H := Option.bind_eq_some_iff.mp H
   obtain ⟨⟨t289, t290, t291⟩, A140, H⟩ := H
   replace H : ((laws_toTiling.f k a0_0 a0_1 l0_2).bind fun bt292 => ((laws_toMotion.f a1_0 a1_1 a1_2).bind fun bt298 => ((impl_MoveCell.f k bt292.1 bt292.2.1 bt292.2.2 bt298.1 bt298.2.1 bt298.2.2 a2 a3).bind fun bt301 => (if bt301.1 = t289 then (if bt301.2.1 = t290 then (laws_FnExactMoveCell.j0 k (bt301.2.2 != t291) a0_0 a0_1 l0_2 bt292.1 bt292.2.1 bt292.2.2) else (laws_FnExactMoveCell.j0 k true a0_0 a0_1 l0_2 bt292.1 bt292.2.1 bt292.2.2)) else (laws_FnExactMoveCell.j0 k true a0_0 a0_1 l0_2 bt292.1 bt292.2.1 bt292.2.2))))) = some r := H
   have A14 := mkA A140
   clear A140
   replace H := Option.bind_eq_some_iff.mp H
   obtain ⟨⟨t292, t293, t294⟩, A150, H⟩ := H
   replace H : ((laws_toMotion.f a1_0 a1_1 a1_2).bind fun bt298 => ((impl_MoveCell.f k t292 t293 t294 bt298.1 bt298.2.1 bt298.2.2 a2 a3).bind fun bt301 => (if bt301.1 = t289 then (if bt301.2.1 = t290 then (laws_FnExactMoveCell.j0 k (bt301.2.2 != t291) a0_0 a0_1 l0_2 t292 t293 t294) else (laws_FnExactMoveCell.j0 k true a0_0 a0_1 l0_2 t292 t293 t294)) else (laws_FnExactMoveCell.j0 k true a0_0 a0_1 l0_2 t292 t293 t294)))) = some r := H
   have A15 := mkA A150
   clear A150
   replace H := Option.bind_eq_some_iff.mp H
   obtain ⟨⟨t298, t299, t300⟩, A160, H⟩ := H
   replace H : ((impl_MoveCell.f k t292 t293 t294 t298 t299 t300 a2 a3).bind fun bt301 => (if bt301.1 = t289 then (if bt301.2.1 = t290 then (laws_FnExactMoveCell.j0 k (bt301.2.2 != t291) a0_0 a0_1 l0_2 t292 t293 t294) else (laws_FnExactMoveCell.j0 k true a0_0 a0_1 l0_2 t292 t293 t294)) else (laws_FnExactMoveCell.j0 k true a0_0 a0_1 l0_2 t292 t293 t294))) = some r := H
   have A16 := mkA A160
   clear A160
   replace H := Option.bind_eq_some_iff.mp H
   obtain ⟨⟨t301, t302, t303⟩, A170, H⟩ := H
   replace H : (if t301 = t289 then (if t302 = t290 then (laws_FnExactMoveCell.j0 k (t303 != t291) a0_0 a0_1 l0_2 t292 t293 t294) else (laws_FnExactMoveCell.j0 k true a0_0 a0_1 l0_2 t292 t293 t294)) else (laws_FnExactMoveCell.j0 k true a0_0 a0_1 l0_2 t292 t293 t294)) = some r := H
   have A17 := mkA A170
   clear A170
   have HC18 := mkA H
   clear H
   go_enter Try.func4, Try.ntmps4
   try go_wp2_with (first | ((with_reducible refine gate_dst (N := 4) rfl ?_); refine box_event ?hg (N := 4) ?hd (cs := #[.int .i64 a0_0, .int .i64 a0_1, .slice A0_2 l0_2.length c0_2]) (t := 24) ?hr ?_; (case hd => rfl); (case hg => rfl); (case hr => first | (go_simp; done) | (go_simp; rfl)); intro gb278 hg w19 hbox hb; have n0_ := mkA (below_step (bs0_ HB.out) hb); have n1_ := mkA (hbox); have n2_ := mkA ((by rw [hg]; exact (below_size (bs0_ HB.out)) : w.heap.size ≤ gb278)); have n3_ := mkA ((by rw [hg]; exact (below_size (bs0_ HB.out)) : w.heap.size ≤ gb278)); clear HB; have HB := n0_; have BK278 := n1_; have GW278 := n2_; have GE278 := n3_; clear n0_ n1_ n2_ n3_; clear hb hbox hg) | ((with_reducible refine gate_dst (N := 5) rfl ?_); refine box_event ?hg (N := 5) ?hd (cs := #[.int .i64 a1_0, .int .i64 a1_1, .int .i64 a1_2]) (t := 26) ?hr ?_; (case hd => rfl); (case hg => rfl); (case hr => first | (go_simp; done) | (go_simp; rfl)); intro gb279 hg w20 hbox hb; have n0_ := mkA (blk_below (g := gb278) (o := .cells #[.int .i64 a0_0, .int .i64 a0_1, .slice A0_2 l0_2.length c0_2] 24 (0, 0)) (bl_ BK278.out) hb); have n1_ := mkA (below_step (bs1_ HB.out GE278.out) hb); have n2_ := mkA (hbox); have n3_ := mkA ((by rw [hg]; exact (below_size (bs1_ HB.out GE278.out)) : w.heap.size ≤ gb279)); have n4_ := mkA ((by rw [hg]; exact (below_size (bs1_ HB.out GE278.out)) : w.heap.size ≤ gb279)); have n5_ := mkA ((by rw [hg]; exact Nat.ne_of_lt (blk_lt (g := gb278) (o := .cells #[.int .i64 a0_0, .int .i64 a0_1, .slice A0_2 l0_2.length c0_2] 24 (0, 0)) (bl_ BK278.out)) : gb278 ≠ gb279)); have n6_ := mkA ((by rw [hg]; exact Nat.ne_of_gt (blk_lt (g := gb278) (o := .cells #[.int .i64 a0_0, .int .i64 a0_1, .slice A0_2 l0_2.length c0_2] 24 (0, 0)) (bl_ BK278.out)) : gb279 ≠ gb278)); clear BK278; clear HB; have BK278 := n0_; have HB := n1_; have BK279 := n2_; have GW279 := n3_; have GE279 := n4_; have NB278_279 := n5_; have NB279_278 := n6_; clear n0_ n1_ n2_ n3_ n4_ n5_ n6_; clear hb hbox hg; have hnb21 := NB278_279.out; have hnc21 := NB279_278.out; have hcz22_0 : w20.cell? ⟨gb278, 0, none⟩ = some (.int .i64 a0_0) := (blk_cell BK278.out 0).trans rfl; have hcz22_1 : w20.cell? ⟨gb278, 1, none⟩ = some (.int .i64 a0_1) := (blk_cell BK278.out 1).trans rfl; have hcz22_2 : w20.cell? ⟨gb278, 2, none⟩ = some (.slice A0_2 l0_2.length c0_2) := (blk_cell BK278.out 2).trans rfl; have hfz22_0 := blk_frozen BK278.out 0; have hfz22_1 := blk_frozen BK278.out 1; have hfz22_2 := blk_frozen BK278.out 2) | ((with_reducible refine gate_callee (f := 15) rfl ?_); refine goesL_ (some 19) rfl rfl Try.func15 (by kernel_rfl) rfl #[.agg #[.int .i64 a0_0, .int .i64 a0_1, .slice A0_2 l0_2.length c0_2], .int .i64 1048576] rfl (by (try simp only [List.map_toArray, List.map_cons, List.map_nil]); first | done | rfl | (simp only [List.length_drop, List.length_take]; rfl)) ?_; (with_reducible refine (laws_szTiling.calls a0_0 a0_1 _ _ l0_2 1048576 t280 _ ?side1 ?side2 A5.out).mono ?_); (case side1 => exact cb_ HR0_2.out HB.out); (case side2 => exact HC0_2.out); rintro e w23 ⟨rfl, hb⟩; refine ⟨_, rfl, ?_⟩; have n0_ := mkA (blk_below (g := gb278) (o := .cells #[.int .i64 a0_0, .int .i64 a0_1, .slice A0_2 l0_2.length c0_2] 24 (0, 0)) (bl_ BK278.out) hb); have n1_ := mkA (blk_below (g := gb279) (o := .cells #[.int .i64 a1_0, .int .i64 a1_1, .int .i64 a1_2] 26 (0, 0)) (bl_ BK279.out) hb); have n2_ := mkA (below_step (bs2_ HB.out GE278.out GE279.out) hb); clear BK278; clear BK279; clear HB; have BK278 := n0_; have BK279 := n1_; have HB := n2_; clear n0_ n1_ n2_; (try clear hb); (try clear hb2); (try clear hk); (try clear hi)))
   have n0_ := mkA (blk_drew BK278.out)
   have n1_ := mkA (blk_drew BK279.out)
   have n2_ := mkA (below_drew1 HB.out)
   clear BK278
   clear BK279
   clear HB
   have BK278 := n0_
   have BK279 := n1_
   have HB := n2_
   clear n0_ n1_ n2_
   refine start_ (n := 14) (S := fun w' => w'.cell? ⟨gb278, 0, none⟩ = some (.int .i64 a0_0) ∧ w'.cell? ⟨gb278, 1, none⟩ = some (.int .i64 a0_1) ∧ w'.cell? ⟨gb278, 2, none⟩ = some (.slice A0_2 l0_2.length c0_2) ∧ w'.cell? ⟨gb279, 0, none⟩ = some (.int .i64 a1_0) ∧ w'.cell? ⟨gb279, 1, none⟩ = some (.int .i64 a1_1) ∧ w'.cell? ⟨gb279, 2, none⟩ = some (.int .i64 a1_2)) (ds := []) laws_FnExactMoveCell.d0 (by kernel_rfl) rfl rfl ⟨(blk_cell BK278.out 0).trans rfl, (blk_cell BK278.out 1).trans rfl, (blk_cell BK278.out 2).trans rfl, (blk_cell BK279.out 0).trans rfl, (blk_cell BK279.out 1).trans rfl, (blk_cell BK279.out 2).trans rfl⟩ (fun hHeld => ?_); refine with_tabW laws_FnExactMoveCell.tab5 laws_FnExactMoveCell.bits5 (fun HT_ HW_ => ?_)
   generalize w23.drew = w24 at BK278 BK279 HB hHeld ⊢
   refine p1_ HT_.out 4 27 laws_FnExactMoveCell.d1 ?_
   refine p1_ HT_.out 5 28 laws_FnExactMoveCell.d2 ?_
   refine take_ (i := 0) (N := some 23) (v := ?_) (a' := ?_) laws_FnExactMoveCell.d3 rfl rfl (take_ofW HT_.out HW_.out (by kernel_rfl)) (fun _ _ _ h => h) (Or.inl ⟨by rfl, ?_⟩) hHeld ?_ ?_
   rotate_left
   · rintro w' ⟨s0, s1, s2, s3, s4, s5⟩
     go_simp
     with_reducible rfl
   rotate_left
   · simp only [Act.put, sA, sB, sC, i64_w, i32_w]
     rfl
   refine take_ (i := 2) (N := some 25) (v := ?_) (a' := ?_) laws_FnExactMoveCell.d4 rfl rfl (take_ofW HT_.out HW_.out (by kernel_rfl)) (fun _ _ _ h => h) (Or.inl ⟨by rfl, ?_⟩) hHeld ?_ ?_
   rotate_left
   · rintro w' ⟨s0, s1, s2, s3, s4, s5⟩
     go_simp
     with_reducible rfl
   rotate_left
   · simp only [Act.put, sA, sB, sC, i64_w, i32_w]
     rfl
   refine one_ (i := 1) (N := some 24) laws_FnExactMoveCell.d5 rfl rfl (one_of HT_.out (by kernel_rfl)) (by decide) (fun K hK => ?_)
   refine goes_ Try.func17 (by kernel_rfl) rfl #[.agg #[.int .i64 a0_0, .int .i64 a0_1, .slice A0_2 l0_2.length c0_2]] (by rfl) rfl rfl (by (try simp only [List.map_toArray, List.map_cons, List.map_nil]); first | done | rfl | (simp only [List.length_drop, List.length_take]; rfl)) ?_
   with_reducible refine (laws_toTiling.calls k a0_0 a0_1 _ _ l0_2 t281 t282 t283 _ ?side1 ?side2 A12.out).mono ?_
   (case side1 => exact cb_ HR0_2.out HB.out)
   (case side2 => exact HC0_2.out)
   rintro e w25 ⟨v284, rfl, ho0, hb⟩
   refine ⟨_, rfl, ?_⟩
   have n0_ := mkA (Kd.R_lower ho0 (below_size (bs2_ HB.out GE278.out GE279.out)))
   have n1_ := mkA (blk_below (g := gb278) (o := .cells #[.int .i64 a0_0, .int .i64 a0_1, .slice A0_2 l0_2.length c0_2] 24 (0, 0)) (bl_ BK278.out) hb)
   have n2_ := mkA (blk_below (g := gb279) (o := .cells #[.int .i64 a1_0, .int .i64 a1_1, .int .i64 a1_2] 26 (0, 0)) (bl_ BK279.out) hb)
   have n3_ := mkA (below_step (bs2_ HB.out GE278.out GE279.out) hb)
   clear BK278
   clear BK279
   clear HB
   have HO285 := n0_
   have BK278 := n1_
   have BK279 := n2_
   have HB := n3_
   clear n0_ n1_ n2_ n3_
   (try clear hb)
   (try clear hb2)
   (try clear hk)
   (try clear hi)
   (try clear ho0)
   refine hK.out _ _ ⟨(blk_cell BK278.out 0).trans rfl, (blk_cell BK278.out 1).trans rfl, (blk_cell BK278.out 2).trans rfl, (blk_cell BK279.out 0).trans rfl, (blk_cell BK279.out 1).trans rfl, (blk_cell BK279.out 2).trans rfl⟩ (fun hHeld => ?_)
   clear hK K
   refine norm_ (a' := ?_) ?_ ?_
   rotate_left
   · show Act.put _ (some 24) _ = _
     simp only [Act.put, sA, sB, sC, i64_w, i32_w]
     rfl
   refine one_ (i := 3) (N := some 26) laws_FnExactMoveCell.d6 rfl rfl (one_of HT_.out (by kernel_rfl)) (by decide) (fun K hK => ?_)
   refine goes_ Try.func18 (by kernel_rfl) rfl #[.agg #[.int .i64 a1_0, .int .i64 a1_1, .int .i64 a1_2]] (by rfl) rfl rfl (by (try simp only [List.map_toArray, List.map_cons, List.map_nil]); first | done | rfl | (simp only [List.length_drop, List.length_take]; rfl)) ?_
   with_reducible refine (laws_toMotion.calls a1_0 a1_1 a1_2 t286 t287 t288 _ A13.out).mono ?_
   rintro e w26 ⟨rfl, hb⟩
   refine ⟨_, rfl, ?_⟩
   have n0_ := mkA (Kd.R_below (by (with_reducible repeat (first | apply Kd.R_alloc | apply Kd.R_drewN | apply Kd.R_drew)); exact HO285.out) hb)
   have n1_ := mkA (blk_below (g := gb278) (o := .cells #[.int .i64 a0_0, .int .i64 a0_1, .slice A0_2 l0_2.length c0_2] 24 (0, 0)) (bl_ BK278.out) hb)
   have n2_ := mkA (blk_below (g := gb279) (o := .cells #[.int .i64 a1_0, .int .i64 a1_1, .int .i64 a1_2] 26 (0, 0)) (bl_ BK279.out) hb)
   have n3_ := mkA (below_step (bs2_ HB.out GE278.out GE279.out) hb)
   clear HO285
   clear BK278
   clear BK279
   clear HB
   have HO285 := n0_
   have BK278 := n1_
   have BK279 := n2_
   have HB := n3_
   clear n0_ n1_ n2_ n3_
   (try clear hb)
   (try clear hb2)
   (try clear hk)
   (try clear hi)
   obtain ⟨Ao27, co27, eo27⟩ := Kd.R_slice HO285.out
   (first | subst eo27 | (injection eo27 with f1_ f2_ f3_; have f4_ := f1_.symm; have f5_ := f3_.symm; clear f1_ f2_ f3_; subst f4_; subst f5_))
   refine hK.out _ _ ⟨(blk_cell BK278.out 0).trans rfl, (blk_cell BK278.out 1).trans rfl, (blk_cell BK278.out 2).trans rfl, (blk_cell BK279.out 0).trans rfl, (blk_cell BK279.out 1).trans rfl, (blk_cell BK279.out 2).trans rfl⟩ (fun hHeld => ?_)
   clear hK K
   refine norm_ (a' := ?_) ?_ ?_
   rotate_left
   · show Act.put _ (some 26) _ = _
     simp only [Act.put, sA, sB, sC, i64_w, i32_w]
     rfl
   refine one_ (i := 6) (N := some 29) laws_FnExactMoveCell.d7 rfl rfl (one_of HT_.out (by kernel_rfl)) (by decide) (fun K hK => ?_)
   refine goes_ Try.func21 (by kernel_rfl) rfl #[.agg #[.int .i64 t281, .int .i64 t282, .slice Ao27 t283.length co27], .agg #[.int .i64 t286, .int .i64 t287, .int .i64 t288], .int .i64 a2, .int .i64 a3] (by rfl) rfl rfl (by (try simp only [List.map_toArray, List.map_cons, List.map_nil]); first | done | rfl | (simp only [List.length_drop, List.length_take]; rfl)) ?_
   with_reducible refine (spec_MoveCell.calls k t281 t282 _ _ t283 t286 t287 t288 a2 a3 t289 t290 t291 _ ?side1 ?side2 A14.out).mono ?_
   (case side1 => repeat (first | exact (Kd.R_reads' HO285.out).2.2 | (with_reducible refine Kd.C_alloc ?_ _) | (with_reducible refine Kd.C_drewN ?_ _) | (with_reducible refine Kd.C_drew ?_)))
   (case side2 => exact (Kd.R_reads' HO285.out).2.1)
   rintro e w28 ⟨rfl, hb⟩
   refine ⟨_, rfl, ?_⟩
   have n0_ := mkA (Kd.R_below (by (with_reducible repeat (first | apply Kd.R_alloc | apply Kd.R_drewN | apply Kd.R_drew)); exact HO285.out) hb)
   have n1_ := mkA (blk_below (g := gb278) (o := .cells #[.int .i64 a0_0, .int .i64 a0_1, .slice A0_2 l0_2.length c0_2] 24 (0, 0)) (bl_ BK278.out) hb)
   have n2_ := mkA (blk_below (g := gb279) (o := .cells #[.int .i64 a1_0, .int .i64 a1_1, .int .i64 a1_2] 26 (0, 0)) (bl_ BK279.out) hb)
   have n3_ := mkA (below_step (bs2_ HB.out GE278.out GE279.out) hb)
   clear HO285
   clear BK278
   clear BK279
   clear HB
   have HO285 := n0_
   have BK278 := n1_
   have BK279 := n2_
   have HB := n3_
   clear n0_ n1_ n2_ n3_
   (try clear hb)
   (try clear hb2)
   (try clear hk)
   (try clear hi)
   refine hK.out _ _ ⟨(blk_cell BK278.out 0).trans rfl, (blk_cell BK278.out 1).trans rfl, (blk_cell BK278.out 2).trans rfl, (blk_cell BK279.out 0).trans rfl, (blk_cell BK279.out 1).trans rfl, (blk_cell BK279.out 2).trans rfl⟩ (fun hHeld => ?_)
   clear hK K
   refine norm_ (a' := ?_) ?_ ?_
   rotate_left
   · show Act.put _ (some 29) _ = _
     simp only [Act.put, sA, sB, sC, i64_w, i32_w]
     rfl
   refine p1_ HT_.out 7 22 laws_FnExactMoveCell.d8 ?_
   refine p1_ HT_.out 8 30 laws_FnExactMoveCell.d9 ?_
   refine p1_ HT_.out 9 31 laws_FnExactMoveCell.d10 ?_
   refine p1_ HT_.out 10 32 laws_FnExactMoveCell.d11 ?_
   refine p1_ HT_.out 11 10 laws_FnExactMoveCell.d12 ?_
   refine p1_ HT_.out 12 11 laws_FnExactMoveCell.d13 ?_
   refine p1_ HT_.out 13 12 laws_FnExactMoveCell.d14 ?_
   refine done_ (done_of HT_.out (by kernel_rfl)) ?_
   have hcz29_0 : w28.cell? ⟨gb278, 0, none⟩ = some (.int .i64 a0_0) := (blk_cell BK278.out 0).trans rfl
   have hcz29_1 : w28.cell? ⟨gb278, 1, none⟩ = some (.int .i64 a0_1) := (blk_cell BK278.out 1).trans rfl
   have hcz29_2 : w28.cell? ⟨gb278, 2, none⟩ = some (.slice A0_2 l0_2.length c0_2) := (blk_cell BK278.out 2).trans rfl
   have hfz29_0 := blk_frozen BK278.out 0
   have hfz29_1 := blk_frozen BK278.out 1
   have hfz29_2 := blk_frozen BK278.out 2
   try go_wp2_with (first | ((with_reducible refine gate_callee (f := 17) rfl ?_); refine goesL_ (some 34) rfl rfl Try.func17 (by kernel_rfl) rfl #[.agg #[.int .i64 a0_0, .int .i64 a0_1, .slice A0_2 l0_2.length c0_2]] rfl (by (try simp only [List.map_toArray, List.map_cons, List.map_nil]); first | done | rfl | (simp only [List.length_drop, List.length_take]; rfl)) ?_; (with_reducible refine (laws_toTiling.calls k a0_0 a0_1 _ _ l0_2 t292 t293 t294 _ ?side1 ?side2 A15.out).mono ?_); (case side1 => exact cb_ HR0_2.out HB.out); (case side2 => exact HC0_2.out); rintro e w30 ⟨v295, rfl, ho0, hb⟩; refine ⟨_, rfl, ?_⟩; have n0_ := mkA (Kd.R_elder' (by (with_reducible repeat (first | apply Kd.R_alloc | apply Kd.R_drewN | apply Kd.R_drew)); exact HO285.out) (Kd.R_base ho0) hb); have n1_ := mkA (Kd.R_lower (Kd.R_new' ho0 (Kd.R_lt (by (with_reducible repeat (first | apply Kd.R_alloc | apply Kd.R_drewN | apply Kd.R_drew)); exact HO285.out))) (below_size (bs2_ HB.out GE278.out GE279.out))); have n2_ := mkA (blk_below (g := gb278) (o := .cells #[.int .i64 a0_0, .int .i64 a0_1, .slice A0_2 l0_2.length c0_2] 24 (0, 0)) (bl_ BK278.out) hb); have n3_ := mkA (blk_below (g := gb279) (o := .cells #[.int .i64 a1_0, .int .i64 a1_1, .int .i64 a1_2] 26 (0, 0)) (bl_ BK279.out) hb); have n4_ := mkA (below_step (bs2_ HB.out GE278.out GE279.out) hb); clear HO285; clear BK278; clear BK279; clear HB; have HO285 := n0_; have HO296 := n1_; have BK278 := n2_; have BK279 := n3_; have HB := n4_; clear n0_ n1_ n2_ n3_ n4_; (try clear hb); (try clear hb2); (try clear hk); (try clear hi); (try clear ho0)) | ((with_reducible refine gate_dst (N := 13) rfl ?_); refine box_event ?hg (N := 13) ?hd (cs := #[.int .i64 0, .int .i64 0, .slice none 0 0]) (t := 29) ?hr ?_; (case hd => rfl); (case hg => rfl); (case hr => first | (go_simp; done) | (go_simp; rfl)); intro gb297 hg w31 hbox hb; have n0_ := mkA (Kd.R_below (by (with_reducible repeat (first | apply Kd.R_alloc | apply Kd.R_drewN | apply Kd.R_drew)); exact HO285.out) hb); have n1_ := mkA (Kd.R_below (by (with_reducible repeat (first | apply Kd.R_alloc | apply Kd.R_drewN | apply Kd.R_drew)); exact HO296.out) hb); have n2_ := mkA (blk_below (g := gb278) (o := .cells #[.int .i64 a0_0, .int .i64 a0_1, .slice A0_2 l0_2.length c0_2] 24 (0, 0)) (bl_ BK278.out) hb); have n3_ := mkA (blk_below (g := gb279) (o := .cells #[.int .i64 a1_0, .int .i64 a1_1, .int .i64 a1_2] 26 (0, 0)) (bl_ BK279.out) hb); have n4_ := mkA (below_step (bs2_ HB.out GE278.out GE279.out) hb); have n5_ := mkA (hbox); have n6_ := mkA ((by rw [hg]; exact (below_size (bs2_ HB.out GE278.out GE279.out)) : w.heap.size ≤ gb297)); have n7_ := mkA ((by rw [hg]; exact (below_size (bs2_ HB.out GE278.out GE279.out)) : w.heap.size ≤ gb297)); have n8_ := mkA ((by rw [hg]; exact Nat.ne_of_lt (blk_lt (g := gb278) (o := .cells #[.int .i64 a0_0, .int .i64 a0_1, .slice A0_2 l0_2.length c0_2] 24 (0, 0)) (bl_ BK278.out)) : gb278 ≠ gb297)); have n9_ := mkA ((by rw [hg]; exact Nat.ne_of_gt (blk_lt (g := gb278) (o := .cells #[.int .i64 a0_0, .int .i64 a0_1, .slice A0_2 l0_2.length c0_2] 24 (0, 0)) (bl_ BK278.out)) : gb297 ≠ gb278)); have n10_ := mkA ((by rw [hg]; exact Nat.ne_of_lt (blk_lt (g := gb279) (o := .cells #[.int .i64 a1_0, .int .i64 a1_1, .int .i64 a1_2] 26 (0, 0)) (bl_ BK279.out)) : gb279 ≠ gb297)); have n11_ := mkA ((by rw [hg]; exact Nat.ne_of_gt (blk_lt (g := gb279) (o := .cells #[.int .i64 a1_0, .int .i64 a1_1, .int .i64 a1_2] 26 (0, 0)) (bl_ BK279.out)) : gb297 ≠ gb279)); clear HO285; clear HO296; clear BK278; clear BK279; clear HB; have HO285 := n0_; have HO296 := n1_; have BK278 := n2_; have BK279 := n3_; have HB := n4_; have BK297 := n5_; have GW297 := n6_; have GE297 := n7_; have NB278_297 := n8_; have NB297_278 := n9_; have NB279_297 := n10_; have NB297_279 := n11_; clear n0_ n1_ n2_ n3_ n4_ n5_ n6_ n7_ n8_ n9_ n10_ n11_; clear hb hbox hg; have hnb32 := NB297_278.out; have hnc32 := NB278_297.out; have hnb33 := NB297_279.out; have hnc33 := NB279_297.out; have hcz34_0 : w31.cell? ⟨gb297, 0, none⟩ = some (.int .i64 0) := (blk_cell BK297.out 0).trans rfl; have hcz34_1 : w31.cell? ⟨gb297, 1, none⟩ = some (.int .i64 0) := (blk_cell BK297.out 1).trans rfl; have hcz34_2 : w31.cell? ⟨gb297, 2, none⟩ = some (.slice none 0 0) := (blk_cell BK297.out 2).trans rfl; have hfz34_0 := blk_frozen BK297.out 0; have hfz34_1 := blk_frozen BK297.out 1; have hfz34_2 := blk_frozen BK297.out 2; obtain ⟨Ao35, co35, eo35⟩ := Kd.R_slice HO296.out; subst eo35))
   have n0_ : Aside0 (Kd.R (Kd.int .i64) 2 (((w31.setCell ⟨gb297, 0, none⟩ (.int .i64 t292)).setCell ⟨gb297, 1, none⟩ (.int .i64 t293)).setCell ⟨gb297, 2, none⟩ (.slice Ao35 t294.length co35)) w.heap.size (fun k_ => some k_ ≠ (.slice Ao35 t294.length co35 : Value).ownBlock) (.slice Ao27 t283.length co27) t283) := ⟨by (with_reducible repeat (first | apply Kd.R_alloc | apply Kd.R_drewN | apply Kd.R_drew)); exact Kd.R_mono (Kd.R_far (p := ⟨gb297, 2, none⟩) (Kd.R_far (p := ⟨gb297, 1, none⟩) (Kd.R_far (p := ⟨gb297, 0, none⟩) (Kd.R_types HO285.out BK297.out (by decide)) (fun _ hk => hk.2) (.int .i64 t292)) (fun _ hk => hk.2) (.int .i64 t293)) (fun _ hk => hk.2) (.slice Ao35 t294.length co35)) (fun _ hk => hk.1.2)⟩
   have n1_ : Aside0 (Kd.R (Kd.int .i64) 2 (((w31.setCell ⟨gb297, 0, none⟩ (.int .i64 t292)).setCell ⟨gb297, 1, none⟩ (.int .i64 t293)).setCell ⟨gb297, 2, none⟩ (.slice Ao35 t294.length co35)) w.heap.size (fun k_ => some k_ ≠ (.slice Ao27 t283.length co27 : Value).ownBlock) (.slice Ao35 t294.length co35) t294) := ⟨by (with_reducible repeat (first | apply Kd.R_alloc | apply Kd.R_drewN | apply Kd.R_drew)); exact Kd.R_mono (Kd.R_far (p := ⟨gb297, 2, none⟩) (Kd.R_far (p := ⟨gb297, 1, none⟩) (Kd.R_far (p := ⟨gb297, 0, none⟩) (Kd.R_types HO296.out BK297.out (by decide)) (fun _ hk => hk.2) (.int .i64 t292)) (fun _ hk => hk.2) (.int .i64 t293)) (fun _ hk => hk.2) (.slice Ao35 t294.length co35)) (fun _ hk => hk.1.2)⟩
   have n2_ : Aside0 ((((w31.setCell ⟨gb297, 0, none⟩ (.int .i64 t292)).setCell ⟨gb297, 1, none⟩ (.int .i64 t293)).setCell ⟨gb297, 2, none⟩ (.slice Ao35 t294.length co35)).heap[gb278]? = some (.cells #[.int .i64 a0_0, .int .i64 a0_1, .slice A0_2 l0_2.length c0_2] 24 (0, 0))) := ⟨by (with_reducible repeat (first | refine blk_drewN ?_ _ | refine blk_drew ?_ | refine blk_alloc ?_ _)); refine blk_far ?_ NB278_297.out _; (with_reducible repeat (first | refine blk_drewN ?_ _ | refine blk_drew ?_ | refine blk_alloc ?_ _)); refine blk_far ?_ NB278_297.out _; (with_reducible repeat (first | refine blk_drewN ?_ _ | refine blk_drew ?_ | refine blk_alloc ?_ _)); refine blk_far ?_ NB278_297.out _; (with_reducible repeat (first | refine blk_drewN ?_ _ | refine blk_drew ?_ | refine blk_alloc ?_ _)); exact BK278.out⟩
   have n3_ : Aside0 ((((w31.setCell ⟨gb297, 0, none⟩ (.int .i64 t292)).setCell ⟨gb297, 1, none⟩ (.int .i64 t293)).setCell ⟨gb297, 2, none⟩ (.slice Ao35 t294.length co35)).heap[gb279]? = some (.cells #[.int .i64 a1_0, .int .i64 a1_1, .int .i64 a1_2] 26 (0, 0))) := ⟨by (with_reducible repeat (first | refine blk_drewN ?_ _ | refine blk_drew ?_ | refine blk_alloc ?_ _)); refine blk_far ?_ NB279_297.out _; (with_reducible repeat (first | refine blk_drewN ?_ _ | refine blk_drew ?_ | refine blk_alloc ?_ _)); refine blk_far ?_ NB279_297.out _; (with_reducible repeat (first | refine blk_drewN ?_ _ | refine blk_drew ?_ | refine blk_alloc ?_ _)); refine blk_far ?_ NB279_297.out _; (with_reducible repeat (first | refine blk_drewN ?_ _ | refine blk_drew ?_ | refine blk_alloc ?_ _)); exact BK279.out⟩
   have n4_ : Aside0 ((((w31.setCell ⟨gb297, 0, none⟩ (.int .i64 t292)).setCell ⟨gb297, 1, none⟩ (.int .i64 t293)).setCell ⟨gb297, 2, none⟩ (.slice Ao35 t294.length co35)).heap[gb297]? = some (.cells #[.int .i64 t292, .int .i64 t293, .slice Ao35 t294.length co35] 29 (0, 0))) := ⟨by (with_reducible repeat (first | refine blk_drewN ?_ _ | refine blk_drew ?_ | refine blk_alloc ?_ _)); refine blk_put (cs := #[.int .i64 t292, .int .i64 t293, .slice none 0 0]) ?_ 2 _ rfl; (with_reducible repeat (first | refine blk_drewN ?_ _ | refine blk_drew ?_ | refine blk_alloc ?_ _)); refine blk_put (cs := #[.int .i64 t292, .int .i64 0, .slice none 0 0]) ?_ 1 _ rfl; (with_reducible repeat (first | refine blk_drewN ?_ _ | refine blk_drew ?_ | refine blk_alloc ?_ _)); refine blk_put (cs := #[.int .i64 0, .int .i64 0, .slice none 0 0]) ?_ 0 _ rfl; (with_reducible repeat (first | refine blk_drewN ?_ _ | refine blk_drew ?_ | refine blk_alloc ?_ _)); exact BK297.out⟩
   have n5_ : Aside0 (Below w.heap.size w (((w31.setCell ⟨gb297, 0, none⟩ (.int .i64 t292)).setCell ⟨gb297, 1, none⟩ (.int .i64 t293)).setCell ⟨gb297, 2, none⟩ (.slice Ao35 t294.length co35))) := ⟨by repeat (first | (with_reducible first | exact HB.out | apply below_alloc | apply pw_below_drewN | apply below_drew1 | refine below_set ?_ GE278.out | refine below_set ?_ GE279.out | refine below_set ?_ GE297.out) | exact HB.out)⟩
   (try clear HO285)
   (try clear HO296)
   (try clear BK278)
   (try clear BK279)
   (try clear BK297)
   (try clear HB)
   generalize (((w31.setCell ⟨gb297, 0, none⟩ (.int .i64 t292)).setCell ⟨gb297, 1, none⟩ (.int .i64 t293)).setCell ⟨gb297, 2, none⟩ (.slice Ao35 t294.length co35)) = w36 at n0_ n1_ n2_ n3_ n4_ n5_ ⊢
   have HO285 := n0_
   have HO296 := n1_
   have BK278 := n2_
   have BK279 := n3_
   have BK297 := n4_
   have HB := n5_
   clear n0_ n1_ n2_ n3_ n4_ n5_
   have n0_ := mkA (Kd.R_drew HO285.out)
   have n1_ := mkA (Kd.R_drew HO296.out)
   have n2_ := mkA (blk_drew BK278.out)
   have n3_ := mkA (blk_drew BK279.out)
   have n4_ := mkA (blk_drew BK297.out)
   have n5_ := mkA (below_drew1 HB.out)
   clear HO285
   clear HO296
   clear BK278
   clear BK279
   clear BK297
   clear HB
   have HO285 := n0_
   have HO296 := n1_
   have BK278 := n2_
   have BK279 := n3_
   have BK297 := n4_
   have HB := n5_
   clear n0_ n1_ n2_ n3_ n4_ n5_
   refine start_ (n := 13) (S := fun w' => w'.cell? ⟨gb297, 0, none⟩ = some (.int .i64 t292) ∧ w'.cell? ⟨gb297, 1, none⟩ = some (.int .i64 t293) ∧ w'.cell? ⟨gb297, 2, none⟩ = some (.slice Ao35 t294.length co35) ∧ w'.cell? ⟨gb279, 0, none⟩ = some (.int .i64 a1_0) ∧ w'.cell? ⟨gb279, 1, none⟩ = some (.int .i64 a1_1) ∧ w'.cell? ⟨gb279, 2, none⟩ = some (.int .i64 a1_2)) (ds := []) laws_FnExactMoveCell.d15 (by kernel_rfl) rfl rfl ⟨(blk_cell BK297.out 0).trans rfl, (blk_cell BK297.out 1).trans rfl, (blk_cell BK297.out 2).trans rfl, (blk_cell BK279.out 0).trans rfl, (blk_cell BK279.out 1).trans rfl, (blk_cell BK279.out 2).trans rfl⟩ (fun hHeld => ?_); refine with_tabW laws_FnExactMoveCell.tab7 laws_FnExactMoveCell.bits7 (fun HT_ HW_ => ?_)
   generalize w36.drew = w37 at HO285 HO296 BK278 BK279 BK297 HB hHeld ⊢
   refine p1_ HT_.out 3 39 laws_FnExactMoveCell.d16 ?_
   refine p1_ HT_.out 4 40 laws_FnExactMoveCell.d17 ?_
   refine take_ (i := 0) (N := some 36) (v := ?_) (a' := ?_) laws_FnExactMoveCell.d18 rfl rfl (take_ofW HT_.out HW_.out (by kernel_rfl)) (fun _ _ _ h => h) (Or.inl ⟨by rfl, ?_⟩) hHeld ?_ ?_
   rotate_left
   · rintro w' ⟨s0, s1, s2, s3, s4, s5⟩
     go_simp
     with_reducible rfl
   rotate_left
   · simp only [Act.put, sA, sB, sC, i64_w, i32_w]
     rfl
   refine take_ (i := 1) (N := some 37) (v := ?_) (a' := ?_) laws_FnExactMoveCell.d19 rfl rfl (take_ofW HT_.out HW_.out (by kernel_rfl)) (fun _ _ _ h => h) (Or.inl ⟨by rfl, ?_⟩) hHeld ?_ ?_
   rotate_left
   · rintro w' ⟨s0, s1, s2, s3, s4, s5⟩
     go_simp
     with_reducible rfl
   rotate_left
   · simp only [Act.put, sA, sB, sC, i64_w, i32_w]
     rfl
   refine one_ (i := 2) (N := some 38) laws_FnExactMoveCell.d20 rfl rfl (one_of HT_.out (by kernel_rfl)) (by decide) (fun K hK => ?_)
   refine goes_ Try.func18 (by kernel_rfl) rfl #[.agg #[.int .i64 a1_0, .int .i64 a1_1, .int .i64 a1_2]] (by rfl) rfl rfl (by (try simp only [List.map_toArray, List.map_cons, List.map_nil]); first | done | rfl | (simp only [List.length_drop, List.length_take]; rfl)) ?_
   with_reducible refine (laws_toMotion.calls a1_0 a1_1 a1_2 t298 t299 t300 _ A16.out).mono ?_
   rintro e w38 ⟨rfl, hb⟩
   refine ⟨_, rfl, ?_⟩
   have n0_ := mkA (Kd.R_below (by (with_reducible repeat (first | apply Kd.R_alloc | apply Kd.R_drewN | apply Kd.R_drew)); exact HO285.out) hb)
   have n1_ := mkA (Kd.R_below (by (with_reducible repeat (first | apply Kd.R_alloc | apply Kd.R_drewN | apply Kd.R_drew)); exact HO296.out) hb)
   have n2_ := mkA (blk_below (g := gb278) (o := .cells #[.int .i64 a0_0, .int .i64 a0_1, .slice A0_2 l0_2.length c0_2] 24 (0, 0)) (bl_ BK278.out) hb)
   have n3_ := mkA (blk_below (g := gb279) (o := .cells #[.int .i64 a1_0, .int .i64 a1_1, .int .i64 a1_2] 26 (0, 0)) (bl_ BK279.out) hb)
   have n4_ := mkA (blk_below (g := gb297) (o := .cells #[.int .i64 t292, .int .i64 t293, .slice Ao35 t294.length co35] 29 (0, 0)) (bl_ BK297.out) hb)
   have n5_ := mkA (below_step (bs3_ HB.out GE278.out GE279.out GE297.out) hb)
   clear HO285
   clear HO296
   clear BK278
   clear BK279
   clear BK297
   clear HB
   have HO285 := n0_
   have HO296 := n1_
   have BK278 := n2_
   have BK279 := n3_
   have BK297 := n4_
   have HB := n5_
   clear n0_ n1_ n2_ n3_ n4_ n5_
   (try clear hb)
   (try clear hb2)
   (try clear hk)
   (try clear hi)
   refine hK.out _ _ ⟨(blk_cell BK297.out 0).trans rfl, (blk_cell BK297.out 1).trans rfl, (blk_cell BK297.out 2).trans rfl, (blk_cell BK279.out 0).trans rfl, (blk_cell BK279.out 1).trans rfl, (blk_cell BK279.out 2).trans rfl⟩ (fun hHeld => ?_)
   clear hK K
   refine norm_ (a' := ?_) ?_ ?_
   rotate_left
   · show Act.put _ (some 38) _ = _
     simp only [Act.put, sA, sB, sC, i64_w, i32_w]
     rfl
   refine one_ (i := 5) (N := some 41) laws_FnExactMoveCell.d21 rfl rfl (one_of HT_.out (by kernel_rfl)) (by decide) (fun K hK => ?_)
   refine goes_ Try.func22 (by kernel_rfl) rfl #[.agg #[.int .i64 t292, .int .i64 t293, .slice Ao35 t294.length co35], .agg #[.int .i64 t298, .int .i64 t299, .int .i64 t300], .int .i64 a2, .int .i64 a3] (by rfl) rfl rfl (by (try simp only [List.map_toArray, List.map_cons, List.map_nil]); first | done | rfl | (simp only [List.length_drop, List.length_take]; rfl)) ?_
   with_reducible refine (impl_MoveCell.calls k t292 t293 _ _ t294 t298 t299 t300 a2 a3 t301 t302 t303 _ ?side1 ?side2 A17.out).mono ?_
   (case side1 => repeat (first | exact (Kd.R_reads' HO296.out).2.2 | (with_reducible refine Kd.C_alloc ?_ _) | (with_reducible refine Kd.C_drewN ?_ _) | (with_reducible refine Kd.C_drew ?_)))
   (case side2 => exact (Kd.R_reads' HO296.out).2.1)
   rintro e w39 ⟨rfl, hb⟩
   refine ⟨_, rfl, ?_⟩
   have n0_ := mkA (Kd.R_below (by (with_reducible repeat (first | apply Kd.R_alloc | apply Kd.R_drewN | apply Kd.R_drew)); exact HO285.out) hb)
   have n1_ := mkA (Kd.R_below (by (with_reducible repeat (first | apply Kd.R_alloc | apply Kd.R_drewN | apply Kd.R_drew)); exact HO296.out) hb)
   have n2_ := mkA (blk_below (g := gb278) (o := .cells #[.int .i64 a0_0, .int .i64 a0_1, .slice A0_2 l0_2.length c0_2] 24 (0, 0)) (bl_ BK278.out) hb)
   have n3_ := mkA (blk_below (g := gb279) (o := .cells #[.int .i64 a1_0, .int .i64 a1_1, .int .i64 a1_2] 26 (0, 0)) (bl_ BK279.out) hb)
   have n4_ := mkA (blk_below (g := gb297) (o := .cells #[.int .i64 t292, .int .i64 t293, .slice Ao35 t294.length co35] 29 (0, 0)) (bl_ BK297.out) hb)
   have n5_ := mkA (below_step (bs3_ HB.out GE278.out GE279.out GE297.out) hb)
   clear HO285
   clear HO296
   clear BK278
   clear BK279
   clear BK297
   clear HB
   have HO285 := n0_
   have HO296 := n1_
   have BK278 := n2_
   have BK279 := n3_
   have BK297 := n4_
   have HB := n5_
   clear n0_ n1_ n2_ n3_ n4_ n5_
   (try clear hb)
   (try clear hb2)
   (try clear hk)
   (try clear hi)
   refine hK.out _ _ ⟨(blk_cell BK297.out 0).trans rfl, (blk_cell BK297.out 1).trans rfl, (blk_cell BK297.out 2).trans rfl, (blk_cell BK279.out 0).trans rfl, (blk_cell BK279.out 1).trans rfl, (blk_cell BK279.out 2).trans rfl⟩ (fun hHeld => ?_)
   clear hK K
   refine norm_ (a' := ?_) ?_ ?_
   rotate_left
   · show Act.put _ (some 41) _ = _
     simp only [Act.put, sA, sB, sC, i64_w, i32_w]
     rfl
   refine p1_ HT_.out 6 35 laws_FnExactMoveCell.d22 ?_
   refine p1_ HT_.out 7 42 laws_FnExactMoveCell.d23 ?_
   refine p1_ HT_.out 8 43 laws_FnExactMoveCell.d24 ?_
   refine p1_ HT_.out 9 44 laws_FnExactMoveCell.d25 ?_
   refine p1_ HT_.out 10 14 laws_FnExactMoveCell.d26 ?_
   refine p1_ HT_.out 11 15 laws_FnExactMoveCell.d27 ?_
   refine p1_ HT_.out 12 16 laws_FnExactMoveCell.d28 ?_
   refine done_ (done_of HT_.out (by kernel_rfl)) ?_
   go_upto_region 8 with (fail)
   go_cut [57] (fun v57 wc => ∃ (kq : Nat) (x57_17 : Bool), v57 = .bool x57_17 ∧ Aside0 (laws_FnExactMoveCell.j0 kq x57_17 a0_0 a0_1 l0_2 t292 t293 t294 = some r) ∧ Aside0 (kq ≤ k) ∧ Aside0 (Kd.R (Kd.int .i64) 2 wc w.heap.size (fun _ => True) (.slice Ao35 t294.length co35) t294) ∧ Aside0 (wc.heap[gb278]? = some (.cells #[.int .i64 a0_0, .int .i64 a0_1, (.slice A0_2 l0_2.length c0_2)] 24 (0, 0))) ∧ Aside0 (wc.heap[gb279]? = some (.cells #[.int .i64 a1_0, .int .i64 a1_1, .int .i64 a1_2] 26 (0, 0))) ∧ Aside0 (wc.heap[gb297]? = some (.cells #[.int .i64 t292, .int .i64 t293, (.slice Ao35 t294.length co35)] 29 (0, 0))) ∧ Aside0 (Below w.heap.size w wc))
   case first =>
    have H := HC18.out
    clear HC18
    by_cases c40 : t301 = t289
    · rw [if_pos c40] at H
      have c40b0 : (t301 == t289) = true := beq_iff_eq.mpr c40
      have c40b1 : (t301 != t289) = false := bne_eq_false_iff_eq.mpr c40
      clear c40
      (first | rw [c40b0] | (simp only [i64_w, i32_w]; rw [c40b0]) | skip)
      by_cases c41 : t302 = t290
      · rw [if_pos c41] at H
        have c41b0 : (t302 == t290) = true := beq_iff_eq.mpr c41
        have c41b1 : (t302 != t290) = false := bne_eq_false_iff_eq.mpr c41
        clear c41
        have H' := mkA H
        clear H
        go_wp2
        go_meet
        case rel => exact ⟨_, ((t303 != t291)), (by first | rfl | (simp; done) | (simp [*]; done) | (simp [i64_w, i32_w]; done)), H', ⟨by first | omega | exact Nat.le_refl _⟩, ⟨by (with_reducible repeat (first | apply Kd.R_alloc | apply Kd.R_drewN | apply Kd.R_drew)); exact Kd.R_mono HO296.out (fun _ hk => trivial)⟩, ⟨by (with_reducible repeat (first | refine blk_drewN ?_ _ | refine blk_drew ?_ | refine blk_alloc ?_ _)); exact BK278.out⟩, ⟨by (with_reducible repeat (first | refine blk_drewN ?_ _ | refine blk_drew ?_ | refine blk_alloc ?_ _)); exact BK279.out⟩, ⟨by (with_reducible repeat (first | refine blk_drewN ?_ _ | refine blk_drew ?_ | refine blk_alloc ?_ _)); exact BK297.out⟩, ⟨by repeat (first | (with_reducible first | exact HB.out | apply below_alloc | apply pw_below_drewN | apply below_drew1 | refine below_set ?_ GE278.out | refine below_set ?_ GE279.out | refine below_set ?_ GE297.out) | exact HB.out)⟩⟩
      · rw [if_neg c41] at H
        have c41b0 : (t302 == t290) = false := beq_eq_false_iff_ne.mpr c41
        have c41b1 : (t302 != t290) = true := bne_iff_ne.mpr c41
        have H' := mkA H
        clear H
        go_wp2
        go_meet
        case rel => exact ⟨_, (true), (by first | rfl | (simp; done) | (simp [*]; done) | (simp [i64_w, i32_w]; done)), H', ⟨by first | omega | exact Nat.le_refl _⟩, ⟨by (with_reducible repeat (first | apply Kd.R_alloc | apply Kd.R_drewN | apply Kd.R_drew)); exact Kd.R_mono HO296.out (fun _ hk => trivial)⟩, ⟨by (with_reducible repeat (first | refine blk_drewN ?_ _ | refine blk_drew ?_ | refine blk_alloc ?_ _)); exact BK278.out⟩, ⟨by (with_reducible repeat (first | refine blk_drewN ?_ _ | refine blk_drew ?_ | refine blk_alloc ?_ _)); exact BK279.out⟩, ⟨by (with_reducible repeat (first | refine blk_drewN ?_ _ | refine blk_drew ?_ | refine blk_alloc ?_ _)); exact BK297.out⟩, ⟨by repeat (first | (with_reducible first | exact HB.out | apply below_alloc | apply pw_below_drewN | apply below_drew1 | refine below_set ?_ GE278.out | refine below_set ?_ GE279.out | refine below_set ?_ GE297.out) | exact HB.out)⟩⟩
    · rw [if_neg c40] at H
      have c40b0 : (t301 == t289) = false := beq_eq_false_iff_ne.mpr c40
      have c40b1 : (t301 != t289) = true := bne_iff_ne.mpr c40
      (first | rw [c40b0] | (simp only [i64_w, i32_w]; rw [c40b0]) | skip)
      have H' := mkA H
      clear H
      go_wp2
      go_meet
      case rel => exact ⟨_, (true), (by first | rfl | (simp; done) | (simp [*]; done) | (simp [i64_w, i32_w]; done)), H', ⟨by first | omega | exact Nat.le_refl _⟩, ⟨by (with_reducible repeat (first | apply Kd.R_alloc | apply Kd.R_drewN | apply Kd.R_drew)); exact Kd.R_mono HO296.out (fun _ hk => trivial)⟩, ⟨by (with_reducible repeat (first | refine blk_drewN ?_ _ | refine blk_drew ?_ | refine blk_alloc ?_ _)); exact BK278.out⟩, ⟨by (with_reducible repeat (first | refine blk_drewN ?_ _ | refine blk_drew ?_ | refine blk_alloc ?_ _)); exact BK279.out⟩, ⟨by (with_reducible repeat (first | refine blk_drewN ?_ _ | refine blk_drew ?_ | refine blk_alloc ?_ _)); exact BK297.out⟩, ⟨by repeat (first | (with_reducible first | exact HB.out | apply below_alloc | apply pw_below_drewN | apply below_drew1 | refine below_set ?_ GE278.out | refine below_set ?_ GE279.out | refine below_set ?_ GE297.out) | exact HB.out)⟩⟩
   case rest =>
    clear HC18
    try clear c1
    try clear c2
    try clear p2
    try clear c3
    try clear c4
    try clear c6
    try clear c6b0
    try clear c9
    try clear c15
    try clear c17
    try clear c18
    try clear c21
    try clear c22
    try clear c32
    try clear c33
    try clear c40
    try clear c40b0
    try clear c40b1
    try clear c41
    try clear c41b0
    try clear c41b1
    try clear hcz10_0
    try clear hcz10_1
    try clear hcz10_2
    try clear hcz22_0
    try clear hcz22_1
    try clear hcz22_2
    try clear hcz29_0
    try clear hcz29_1
    try clear hcz29_2
    try clear hcz34_0
    try clear hcz34_1
    try clear hcz34_2
    try clear hfz10_0
    try clear hfz10_1
    try clear hfz10_2
    try clear hfz22_0
    try clear hfz22_1
    try clear hfz22_2
    try clear hfz29_0
    try clear hfz29_1
    try clear hfz29_2
    try clear hfz34_0
    try clear hfz34_1
    try clear hfz34_2
    obtain ⟨kq, x57_17, rfl, HA, HJ17, HO_298002, BK278, BK279, BK297, HB⟩ := hcut
    cases kq with
    | zero => exact absurd HA.out (by simp [laws_FnExactMoveCell.j0])
    | succ kj17 =>
     have H := HA.out
     clear HA
     simp only [laws_FnExactMoveCell.j0] at H
     by_cases c42 : x57_17 = true
     · subst c42
       have H1 : (some false) = some r := by rw [if_pos rfl] at H; exact H
       clear H
       have H := H1
       clear H1
       obtain rfl := Option.some.inj H
       go_wp2
       go_ret
       exact ⟨by first | rfl | (simp [errW_none, errW_some] <;> rfl) | (simp [*, errW_none, errW_some] <;> rfl), by repeat (first | (with_reducible first | exact HB.out | apply below_alloc | apply pw_below_drewN | apply below_drew1 | refine below_set ?_ GE278.out | refine below_set ?_ GE279.out | refine below_set ?_ GE297.out) | exact HB.out)⟩
     · replace c42 := Bool.eq_false_iff.mpr c42
       subst c42
       have H1 : ((laws_toTiling.f kj17 a0_0 a0_1 l0_2).bind fun bt304 => ((laws_eqTiling.f kj17 t292 t293 t294 bt304.1 bt304.2.1 bt304.2.2).bind fun t309 => (if t309 = true then (some true) else (some false)))) = some r := by rw [if_neg (show ¬ (false = true) by decide)] at H; exact H
       clear H
       have H := H1
       clear H1
       replace H := Option.bind_eq_some_iff.mp H
       obtain ⟨⟨t304, t305, t306⟩, A430, H⟩ := H
       replace H : ((laws_eqTiling.f kj17 t292 t293 t294 t304 t305 t306).bind fun t309 => (if t309 = true then (some true) else (some false))) = some r := H
       have A43 := mkA A430
       clear A430
       replace H := Option.bind_eq_some_iff.mp H
       obtain ⟨t309, A440, H⟩ := H
       replace H : (if t309 = true then (some true) else (some false)) = some r := H
       have A44 := mkA A440
       clear A440
       by_cases c45 : t309 = true
       · subst c45
         have H1 : (some true) = some r := by rw [if_pos rfl] at H; exact H
         clear H
         have H := H1
         clear H1
         obtain rfl := Option.some.inj H
         try go_wp2
         have n0_ := mkA (Kd.R_drew HO_298002.out)
         have n1_ := mkA (blk_drew BK278.out)
         have n2_ := mkA (blk_drew BK279.out)
         have n3_ := mkA (blk_drew BK297.out)
         have n4_ := mkA (below_drew1 HB.out)
         clear HO_298002
         clear BK278
         clear BK279
         clear BK297
         clear HB
         have HO_298002 := n0_
         have BK278 := n1_
         have BK279 := n2_
         have BK297 := n3_
         have HB := n4_
         clear n0_ n1_ n2_ n3_ n4_
         refine start_ (n := 5) (S := fun w' => w'.cell? ⟨gb297, 0, none⟩ = some (.int .i64 t292) ∧ w'.cell? ⟨gb297, 1, none⟩ = some (.int .i64 t293) ∧ w'.cell? ⟨gb297, 2, none⟩ = some (.slice Ao35 t294.length co35) ∧ w'.cell? ⟨gb278, 0, none⟩ = some (.int .i64 a0_0) ∧ w'.cell? ⟨gb278, 1, none⟩ = some (.int .i64 a0_1) ∧ w'.cell? ⟨gb278, 2, none⟩ = some (.slice A0_2 l0_2.length c0_2)) (ds := []) #[false, false, false, false, false] (by kernel_rfl) rfl rfl ⟨(blk_cell BK297.out 0).trans rfl, (blk_cell BK297.out 1).trans rfl, (blk_cell BK297.out 2).trans rfl, (blk_cell BK278.out 0).trans rfl, (blk_cell BK278.out 1).trans rfl, (blk_cell BK278.out 2).trans rfl⟩ (fun hHeld => ?_)
         generalize wc.drew = w46 at HO_298002 BK278 BK279 BK297 HB hHeld ⊢
         refine take_ (i := 0) (N := some 58) (v := ?_) (a' := ?_) #[true, false, false, false, false] rfl rfl (by kernel_rfl) (fun _ _ _ h => h) (Or.inl ⟨by rfl, ?_⟩) hHeld ?_ ?_
         rotate_left
         · rintro w' ⟨s0, s1, s2, s3, s4, s5⟩
           go_simp
           with_reducible rfl
         rotate_left
         · simp only [Act.put, sA, sB, sC, i64_w, i32_w]
           rfl
         refine take_ (i := 1) (N := some 59) (v := ?_) (a' := ?_) #[true, true, false, false, false] rfl rfl (by kernel_rfl) (fun _ _ _ h => h) (Or.inl ⟨by rfl, ?_⟩) hHeld ?_ ?_
         rotate_left
         · rintro w' ⟨s0, s1, s2, s3, s4, s5⟩
           go_simp
           with_reducible rfl
         rotate_left
         · simp only [Act.put, sA, sB, sC, i64_w, i32_w]
           rfl
         refine one_ (i := 2) (N := some 60) #[true, true, true, false, false] rfl rfl (by kernel_rfl) (by decide) (fun K hK => ?_)
         refine goes_ Try.func17 (by kernel_rfl) rfl #[.agg #[.int .i64 a0_0, .int .i64 a0_1, .slice A0_2 l0_2.length c0_2]] (by rfl) rfl rfl (by (try simp only [List.map_toArray, List.map_cons, List.map_nil]); first | done | rfl | (simp only [List.length_drop, List.length_take]; rfl)) ?_
         with_reducible refine (laws_toTiling.calls kj17 a0_0 a0_1 _ _ l0_2 t304 t305 t306 _ ?side1 ?side2 A43.out).mono ?_
         (case side1 => exact cb_ HR0_2.out HB.out)
         (case side2 => exact HC0_2.out)
         rintro e w47 ⟨v307, rfl, ho0, hb⟩
         refine ⟨_, rfl, ?_⟩
         have n0_ := mkA (Kd.R_elder' (by (with_reducible repeat (first | apply Kd.R_alloc | apply Kd.R_drewN | apply Kd.R_drew)); exact HO_298002.out) (Kd.R_base ho0) hb)
         have n1_ := mkA (Kd.R_lower (Kd.R_new' ho0 (Kd.R_lt (by (with_reducible repeat (first | apply Kd.R_alloc | apply Kd.R_drewN | apply Kd.R_drew)); exact HO_298002.out))) (below_size (bs3_ HB.out GE278.out GE279.out GE297.out)))
         have n2_ := mkA (blk_below (g := gb278) (o := .cells #[.int .i64 a0_0, .int .i64 a0_1, .slice A0_2 l0_2.length c0_2] 24 (0, 0)) (bl_ BK278.out) hb)
         have n3_ := mkA (blk_below (g := gb279) (o := .cells #[.int .i64 a1_0, .int .i64 a1_1, .int .i64 a1_2] 26 (0, 0)) (bl_ BK279.out) hb)
         have n4_ := mkA (blk_below (g := gb297) (o := .cells #[.int .i64 t292, .int .i64 t293, .slice Ao35 t294.length co35] 29 (0, 0)) (bl_ BK297.out) hb)
         have n5_ := mkA (below_step (bs3_ HB.out GE278.out GE279.out GE297.out) hb)
         clear HO_298002
         clear BK278
         clear BK279
         clear BK297
         clear HB
         have HO_298002 := n0_
         have HO308 := n1_
         have BK278 := n2_
         have BK279 := n3_
         have BK297 := n4_
         have HB := n5_
         clear n0_ n1_ n2_ n3_ n4_ n5_
         (try clear hb)
         (try clear hb2)
         (try clear hk)
         (try clear hi)
         (try clear ho0)
         obtain ⟨Ao48, co48, eo48⟩ := Kd.R_slice HO308.out
         (first | subst eo48 | (injection eo48 with f1_ f2_ f3_; have f4_ := f1_.symm; have f5_ := f3_.symm; clear f1_ f2_ f3_; subst f4_; subst f5_))
         refine hK.out _ _ ⟨(blk_cell BK297.out 0).trans rfl, (blk_cell BK297.out 1).trans rfl, (blk_cell BK297.out 2).trans rfl, (blk_cell BK278.out 0).trans rfl, (blk_cell BK278.out 1).trans rfl, (blk_cell BK278.out 2).trans rfl⟩ (fun hHeld => ?_)
         clear hK K
         refine norm_ (a' := ?_) ?_ ?_
         rotate_left
         · show Act.put _ (some 60) _ = _
           simp only [Act.put, sA, sB, sC, i64_w, i32_w]
           rfl
         refine one_ (i := 3) (N := some 61) #[true, true, true, true, false] rfl rfl (by kernel_rfl) (by decide) (fun K hK => ?_)
         refine goes_ Try.func20 (by kernel_rfl) rfl #[.agg #[.int .i64 t292, .int .i64 t293, .slice Ao35 t294.length co35], .agg #[.int .i64 t304, .int .i64 t305, .slice Ao48 t306.length co48]] (by rfl) rfl rfl (by (try simp only [List.map_toArray, List.map_cons, List.map_nil]); first | done | rfl | (simp only [List.length_drop, List.length_take]; rfl)) ?_
         with_reducible refine (laws_eqTiling.calls kj17 t292 t293 _ _ t294 t304 t305 _ _ t306 true _ ?side1 ?side2 ?side3 ?side4 A44.out).mono ?_
         (case side1 => repeat (first | exact (Kd.R_reads' HO_298002.out).2.2 | (with_reducible refine Kd.C_alloc ?_ _) | (with_reducible refine Kd.C_drewN ?_ _) | (with_reducible refine Kd.C_drew ?_)))
         (case side2 => exact (Kd.R_reads' HO_298002.out).2.1)
         (case side3 => repeat (first | exact (Kd.R_reads' HO308.out).2.2 | (with_reducible refine Kd.C_alloc ?_ _) | (with_reducible refine Kd.C_drewN ?_ _) | (with_reducible refine Kd.C_drew ?_)))
         (case side4 => exact (Kd.R_reads' HO308.out).2.1)
         rintro e w49 ⟨rfl, hb⟩
         refine ⟨_, rfl, ?_⟩
         have n0_ := mkA (Kd.R_below (by (with_reducible repeat (first | apply Kd.R_alloc | apply Kd.R_drewN | apply Kd.R_drew)); exact HO_298002.out) hb)
         have n1_ := mkA (Kd.R_below (by (with_reducible repeat (first | apply Kd.R_alloc | apply Kd.R_drewN | apply Kd.R_drew)); exact HO308.out) hb)
         have n2_ := mkA (blk_below (g := gb278) (o := .cells #[.int .i64 a0_0, .int .i64 a0_1, .slice A0_2 l0_2.length c0_2] 24 (0, 0)) (bl_ BK278.out) hb)
         have n3_ := mkA (blk_below (g := gb279) (o := .cells #[.int .i64 a1_0, .int .i64 a1_1, .int .i64 a1_2] 26 (0, 0)) (bl_ BK279.out) hb)
         have n4_ := mkA (blk_below (g := gb297) (o := .cells #[.int .i64 t292, .int .i64 t293, .slice Ao35 t294.length co35] 29 (0, 0)) (bl_ BK297.out) hb)
         have n5_ := mkA (below_step (bs3_ HB.out GE278.out GE279.out GE297.out) hb)
         clear HO_298002
         clear HO308
         clear BK278
         clear BK279
         clear BK297
         clear HB
         have HO_298002 := n0_
         have HO308 := n1_
         have BK278 := n2_
         have BK279 := n3_
         have BK297 := n4_
         have HB := n5_
         clear n0_ n1_ n2_ n3_ n4_ n5_
         (try clear hb)
         (try clear hb2)
         (try clear hk)
         (try clear hi)
         refine hK.out _ _ ⟨(blk_cell BK297.out 0).trans rfl, (blk_cell BK297.out 1).trans rfl, (blk_cell BK297.out 2).trans rfl, (blk_cell BK278.out 0).trans rfl, (blk_cell BK278.out 1).trans rfl, (blk_cell BK278.out 2).trans rfl⟩ (fun hHeld => ?_)
         clear hK K
         refine norm_ (a' := ?_) ?_ ?_
         rotate_left
         · show Act.put _ (some 61) _ = _
           simp only [Act.put, sA, sB, sC, i64_w, i32_w]
           rfl
         refine pure_ (i := 4) (N := some 62) (v := ?_) (a' := ?_) #[true, true, true, true, true] rfl rfl (by kernel_rfl) (fun _ _ _ h => h) (Or.inl ⟨by rfl, ?_⟩) ?_ ?_
         rotate_left
         · intro w'
           go_simp
           with_reducible rfl
         rotate_left
         · simp only [Act.put, sA, sB, sC, i64_w, i32_w]
           rfl
         refine done_ (by kernel_rfl) ?_
         try go_wp2
         go_ret
         exact ⟨by first | rfl | (simp [errW_none, errW_some] <;> rfl) | (simp [*, errW_none, errW_some] <;> rfl), by repeat (first | (with_reducible first | exact HB.out | apply below_alloc | apply pw_below_drewN | apply below_drew1 | refine below_set ?_ GE278.out | refine below_set ?_ GE279.out | refine below_set ?_ GE297.out) | exact HB.out)⟩
       · replace c45 := Bool.eq_false_iff.mpr c45
         subst c45
         have H1 : (some false) = some r := by rw [if_neg (show ¬ (false = true) by decide)] at H; exact H
         clear H
         have H := H1
         clear H1
         obtain rfl := Option.some.inj H
         try go_wp2
         have n0_ := mkA (Kd.R_drew HO_298002.out)
         have n1_ := mkA (blk_drew BK278.out)
         have n2_ := mkA (blk_drew BK279.out)
         have n3_ := mkA (blk_drew BK297.out)
         have n4_ := mkA (below_drew1 HB.out)
         clear HO_298002
         clear BK278
         clear BK279
         clear BK297
         clear HB
         have HO_298002 := n0_
         have BK278 := n1_
         have BK279 := n2_
         have BK297 := n3_
         have HB := n4_
         clear n0_ n1_ n2_ n3_ n4_
         refine start_ (n := 5) (S := fun w' => w'.cell? ⟨gb297, 0, none⟩ = some (.int .i64 t292) ∧ w'.cell? ⟨gb297, 1, none⟩ = some (.int .i64 t293) ∧ w'.cell? ⟨gb297, 2, none⟩ = some (.slice Ao35 t294.length co35) ∧ w'.cell? ⟨gb278, 0, none⟩ = some (.int .i64 a0_0) ∧ w'.cell? ⟨gb278, 1, none⟩ = some (.int .i64 a0_1) ∧ w'.cell? ⟨gb278, 2, none⟩ = some (.slice A0_2 l0_2.length c0_2)) (ds := []) #[false, false, false, false, false] (by kernel_rfl) rfl rfl ⟨(blk_cell BK297.out 0).trans rfl, (blk_cell BK297.out 1).trans rfl, (blk_cell BK297.out 2).trans rfl, (blk_cell BK278.out 0).trans rfl, (blk_cell BK278.out 1).trans rfl, (blk_cell BK278.out 2).trans rfl⟩ (fun hHeld => ?_)
         generalize wc.drew = w50 at HO_298002 BK278 BK279 BK297 HB hHeld ⊢
         refine take_ (i := 0) (N := some 58) (v := ?_) (a' := ?_) #[true, false, false, false, false] rfl rfl (by kernel_rfl) (fun _ _ _ h => h) (Or.inl ⟨by rfl, ?_⟩) hHeld ?_ ?_
         rotate_left
         · rintro w' ⟨s0, s1, s2, s3, s4, s5⟩
           go_simp
           with_reducible rfl
         rotate_left
         · simp only [Act.put, sA, sB, sC, i64_w, i32_w]
           rfl
         refine take_ (i := 1) (N := some 59) (v := ?_) (a' := ?_) #[true, true, false, false, false] rfl rfl (by kernel_rfl) (fun _ _ _ h => h) (Or.inl ⟨by rfl, ?_⟩) hHeld ?_ ?_
         rotate_left
         · rintro w' ⟨s0, s1, s2, s3, s4, s5⟩
           go_simp
           with_reducible rfl
         rotate_left
         · simp only [Act.put, sA, sB, sC, i64_w, i32_w]
           rfl
         refine one_ (i := 2) (N := some 60) #[true, true, true, false, false] rfl rfl (by kernel_rfl) (by decide) (fun K hK => ?_)
         refine goes_ Try.func17 (by kernel_rfl) rfl #[.agg #[.int .i64 a0_0, .int .i64 a0_1, .slice A0_2 l0_2.length c0_2]] (by rfl) rfl rfl (by (try simp only [List.map_toArray, List.map_cons, List.map_nil]); first | done | rfl | (simp only [List.length_drop, List.length_take]; rfl)) ?_
         with_reducible refine (laws_toTiling.calls kj17 a0_0 a0_1 _ _ l0_2 t304 t305 t306 _ ?side1 ?side2 A43.out).mono ?_
         (case side1 => exact cb_ HR0_2.out HB.out)
         (case side2 => exact HC0_2.out)
         rintro e w51 ⟨v307, rfl, ho0, hb⟩
         refine ⟨_, rfl, ?_⟩
         have n0_ := mkA (Kd.R_elder' (by (with_reducible repeat (first | apply Kd.R_alloc | apply Kd.R_drewN | apply Kd.R_drew)); exact HO_298002.out) (Kd.R_base ho0) hb)
         have n1_ := mkA (Kd.R_lower (Kd.R_new' ho0 (Kd.R_lt (by (with_reducible repeat (first | apply Kd.R_alloc | apply Kd.R_drewN | apply Kd.R_drew)); exact HO_298002.out))) (below_size (bs3_ HB.out GE278.out GE279.out GE297.out)))
         have n2_ := mkA (blk_below (g := gb278) (o := .cells #[.int .i64 a0_0, .int .i64 a0_1, .slice A0_2 l0_2.length c0_2] 24 (0, 0)) (bl_ BK278.out) hb)
         have n3_ := mkA (blk_below (g := gb279) (o := .cells #[.int .i64 a1_0, .int .i64 a1_1, .int .i64 a1_2] 26 (0, 0)) (bl_ BK279.out) hb)
         have n4_ := mkA (blk_below (g := gb297) (o := .cells #[.int .i64 t292, .int .i64 t293, .slice Ao35 t294.length co35] 29 (0, 0)) (bl_ BK297.out) hb)
         have n5_ := mkA (below_step (bs3_ HB.out GE278.out GE279.out GE297.out) hb)
         clear HO_298002
         clear BK278
         clear BK279
         clear BK297
         clear HB
         have HO_298002 := n0_
         have HO308 := n1_
         have BK278 := n2_
         have BK279 := n3_
         have BK297 := n4_
         have HB := n5_
         clear n0_ n1_ n2_ n3_ n4_ n5_
         (try clear hb)
         (try clear hb2)
         (try clear hk)
         (try clear hi)
         (try clear ho0)
         obtain ⟨Ao52, co52, eo52⟩ := Kd.R_slice HO308.out
         (first | subst eo52 | (injection eo52 with f1_ f2_ f3_; have f4_ := f1_.symm; have f5_ := f3_.symm; clear f1_ f2_ f3_; subst f4_; subst f5_))
         refine hK.out _ _ ⟨(blk_cell BK297.out 0).trans rfl, (blk_cell BK297.out 1).trans rfl, (blk_cell BK297.out 2).trans rfl, (blk_cell BK278.out 0).trans rfl, (blk_cell BK278.out 1).trans rfl, (blk_cell BK278.out 2).trans rfl⟩ (fun hHeld => ?_)
         clear hK K
         refine norm_ (a' := ?_) ?_ ?_
         rotate_left
         · show Act.put _ (some 60) _ = _
           simp only [Act.put, sA, sB, sC, i64_w, i32_w]
           rfl
         refine one_ (i := 3) (N := some 61) #[true, true, true, true, false] rfl rfl (by kernel_rfl) (by decide) (fun K hK => ?_)
         refine goes_ Try.func20 (by kernel_rfl) rfl #[.agg #[.int .i64 t292, .int .i64 t293, .slice Ao35 t294.length co35], .agg #[.int .i64 t304, .int .i64 t305, .slice Ao52 t306.length co52]] (by rfl) rfl rfl (by (try simp only [List.map_toArray, List.map_cons, List.map_nil]); first | done | rfl | (simp only [List.length_drop, List.length_take]; rfl)) ?_
         with_reducible refine (laws_eqTiling.calls kj17 t292 t293 _ _ t294 t304 t305 _ _ t306 false _ ?side1 ?side2 ?side3 ?side4 A44.out).mono ?_
         (case side1 => repeat (first | exact (Kd.R_reads' HO_298002.out).2.2 | (with_reducible refine Kd.C_alloc ?_ _) | (with_reducible refine Kd.C_drewN ?_ _) | (with_reducible refine Kd.C_drew ?_)))
         (case side2 => exact (Kd.R_reads' HO_298002.out).2.1)
         (case side3 => repeat (first | exact (Kd.R_reads' HO308.out).2.2 | (with_reducible refine Kd.C_alloc ?_ _) | (with_reducible refine Kd.C_drewN ?_ _) | (with_reducible refine Kd.C_drew ?_)))
         (case side4 => exact (Kd.R_reads' HO308.out).2.1)
         rintro e w53 ⟨rfl, hb⟩
         refine ⟨_, rfl, ?_⟩
         have n0_ := mkA (Kd.R_below (by (with_reducible repeat (first | apply Kd.R_alloc | apply Kd.R_drewN | apply Kd.R_drew)); exact HO_298002.out) hb)
         have n1_ := mkA (Kd.R_below (by (with_reducible repeat (first | apply Kd.R_alloc | apply Kd.R_drewN | apply Kd.R_drew)); exact HO308.out) hb)
         have n2_ := mkA (blk_below (g := gb278) (o := .cells #[.int .i64 a0_0, .int .i64 a0_1, .slice A0_2 l0_2.length c0_2] 24 (0, 0)) (bl_ BK278.out) hb)
         have n3_ := mkA (blk_below (g := gb279) (o := .cells #[.int .i64 a1_0, .int .i64 a1_1, .int .i64 a1_2] 26 (0, 0)) (bl_ BK279.out) hb)
         have n4_ := mkA (blk_below (g := gb297) (o := .cells #[.int .i64 t292, .int .i64 t293, .slice Ao35 t294.length co35] 29 (0, 0)) (bl_ BK297.out) hb)
         have n5_ := mkA (below_step (bs3_ HB.out GE278.out GE279.out GE297.out) hb)
         clear HO_298002
         clear HO308
         clear BK278
         clear BK279
         clear BK297
         clear HB
         have HO_298002 := n0_
         have HO308 := n1_
         have BK278 := n2_
         have BK279 := n3_
         have BK297 := n4_
         have HB := n5_
         clear n0_ n1_ n2_ n3_ n4_ n5_
         (try clear hb)
         (try clear hb2)
         (try clear hk)
         (try clear hi)
         refine hK.out _ _ ⟨(blk_cell BK297.out 0).trans rfl, (blk_cell BK297.out 1).trans rfl, (blk_cell BK297.out 2).trans rfl, (blk_cell BK278.out 0).trans rfl, (blk_cell BK278.out 1).trans rfl, (blk_cell BK278.out 2).trans rfl⟩ (fun hHeld => ?_)
         clear hK K
         refine norm_ (a' := ?_) ?_ ?_
         rotate_left
         · show Act.put _ (some 61) _ = _
           simp only [Act.put, sA, sB, sC, i64_w, i32_w]
           rfl
         refine pure_ (i := 4) (N := some 62) (v := ?_) (a' := ?_) #[true, true, true, true, true] rfl rfl (by kernel_rfl) (fun _ _ _ h => h) (Or.inl ⟨by rfl, ?_⟩) ?_ ?_
         rotate_left
         · intro w'
           go_simp
           with_reducible rfl
         rotate_left
         · simp only [Act.put, sA, sB, sC, i64_w, i32_w]
           rfl
         refine done_ (by kernel_rfl) ?_
         try go_wp2
         go_ret
         exact ⟨by first | rfl | (simp [errW_none, errW_some] <;> rfl) | (simp [*, errW_none, errW_some] <;> rfl), by repeat (first | (with_reducible first | exact HB.out | apply below_alloc | apply pw_below_drewN | apply below_drew1 | refine below_set ?_ GE278.out | refine below_set ?_ GE279.out | refine below_set ?_ GE297.out) | exact HB.out)⟩
def G24 (x : S24) : Prop := (Lit.int .i64 x.f0).wf = true ∧ (Lit.int .i64 x.f1).wf = true ∧ (x.f2.length ≤ maxLen ∧ ∀ y0 ∈ x.f2, (Lit.int .i64 y0).wf = true)
def G26 (x : S26) : Prop := (Lit.int .i64 x.f0).wf = true ∧ (Lit.int .i64 x.f1).wf = true ∧ (Lit.int .i64 x.f2).wf = true

/-- THE ONE PURE STATEMENT of laws_FnExactMoveCell. -/
def laws_FnExactMoveCell.Pure : Prop := ∀ (a0_0 : Int) (a0_1 : Int) (l0_2 : List Int) (a1_0 : Int) (a1_1 : Int) (a1_2 : Int) (a2 : Int) (a3 : Int), G24 (⟨a0_0, a0_1, l0_2⟩ : S24) → G26 (⟨a1_0, a1_1, a1_2⟩ : S26) → (Lit.int .i64 a2).wf = true → (Lit.int .i64 a3).wf = true → ∃ k, laws_FnExactMoveCell.f k a0_0 a0_1 l0_2 a1_0 a1_1 a1_2 a2 a3 = some true

end Go.Proofs.Ytnidibnhojedoaa.GFnExactMoveCell
