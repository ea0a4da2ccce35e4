-- Written by the session's own program (gen.py) out of the translation's print. Lean checks it.
import Derived.Test.YtnidibnhojedoaaGFnExactComposeMotionsx0
import Derived.Test.YtnidibnhojedoaaGFnExactComposeMotionsx2
import Derived.Test.YtnidibnhojedoaaGFnExactComposeMotionsx8
import Derived.Test.YtnidibnhojedoaaGFnExactComposeMotionsx11
namespace Go.Proofs.Ytnidibnhojedoaa.GFnExactComposeMotions
open Go.RowKit Go.Proofs.YtnidibnhojedoaaW.PrintWords Go.Proofs.YtnidibnhojedoaaW.PrintLast Go.Proofs.YtnidibnhojedoaaW.PrintMore
attribute [local go_sem] max2_int min2_int max_two min_two max_three min_three max_four min_four   -- for this text's walks alone
set_option linter.unusedVariables false
set_option linter.unusedSimpArgs false

/-! ### laws_FnExactComposeMotions: function 9 -/
def laws_FnExactComposeMotions.j0 : Nat → Bool → Int → Int → List Int → Int → Int → List Int → Option (Bool)
  | 0, _, _, _, _, _, _, _ => none
  | k + 1, x47, x316000, x316001, x316002, x341000, x341001, x341002 => if x47 = true then (some false) else ((laws_toTiling.f k x316000 x316001 x316002).bind fun bt353 => ((laws_eqTiling.f k x341000 x341001 x341002 bt353.1 bt353.2.1 bt353.2.2).bind fun t358 => (if t358 = true then (some true) else (some false))))
def laws_FnExactComposeMotions.f (k : Nat) (a0_0 : Int) (a0_1 : Int) (l0_2 : List Int) (a1_0 : Int) (a1_1 : Int) (a1_2 : Int) (a2_0 : Int) (a2_1 : Int) (a2_2 : Int) : Option (Bool) := (laws_szTiling.f a0_0 a0_1 l0_2 1048576).bind fun t318 => (if t318 < 0 then (some true) else ((laws_toTiling.f k a0_0 a0_1 l0_2).bind fun bt319 => ((laws_toMotion.f a1_0 a1_1 a1_2).bind fun bt324 => ((laws_toMotion.f a2_0 a2_1 a2_2).bind fun bt327 => ((spec_ComposeMotions.f k bt319.1 bt319.2.1 bt319.2.2 bt324.1 bt324.2.1 bt324.2.2 bt327.1 bt327.2.1 bt327.2.2).bind fun bt330 => ((laws_toTiling.f k a0_0 a0_1 l0_2).bind fun bt335 => ((laws_toMotion.f a1_0 a1_1 a1_2).bind fun bt341 => ((laws_toMotion.f a2_0 a2_1 a2_2).bind fun bt344 => ((impl_ComposeMotions.f k bt335.1 bt335.2.1 bt335.2.2 bt341.1 bt341.2.1 bt341.2.2 bt344.1 bt344.2.1 bt344.2.2).bind fun bt347 => ((laws_eqMotion.f bt347.1 bt347.2.1 bt347.2.2.1 bt330.1 bt330.2.1 bt330.2.2.1).bind fun t352 => (if t352 = true then (laws_FnExactComposeMotions.j0 k (bt347.2.2.2 != bt330.2.2.2) a0_0 a0_1 l0_2 bt335.1 bt335.2.1 bt335.2.2) else (laws_FnExactComposeMotions.j0 k true a0_0 a0_1 l0_2 bt335.1 bt335.2.1 bt335.2.2))))))))))))
theorem laws_FnExactComposeMotions.mono_l : ∀ k, (∀ y0 y1 y2 y3 y4 y5 y6, LeO (laws_FnExactComposeMotions.j0 k y0 y1 y2 y3 y4 y5 y6) (laws_FnExactComposeMotions.j0 (k + 1) y0 y1 y2 y3 y4 y5 y6))
  | 0 => fun _ _ _ _ _ _ _ r h => by simp [laws_FnExactComposeMotions.j0] at h
  | k + 1 => by
    have ih0 := laws_FnExactComposeMotions.mono_l k
    · intro y0 y1 y2 y3 y4 y5 y6
      unfold laws_FnExactComposeMotions.j0
      repeat' first
      | (with_reducible exact ih0 _ _ _ _ _ _ _)
      | (with_reducible exact impl_ComposeMotions.mono _ _ _ _ _ _ _ _ _ _)
      | (with_reducible exact laws_eqTiling.mono _ _ _ _ _ _ _)
      | (with_reducible exact laws_toTiling.mono _ _ _ _)
      | (with_reducible exact spec_ComposeMotions.mono _ _ _ _ _ _ _ _ _ _)
      | (with_reducible exact LeO.refl _)
      | (with_reducible exact LeO.none _)
      | (with_reducible refine LeO.ite ?_ ?_)
      | (with_reducible refine LeO.bind ?_ (fun _ => ?_))
      | exact ih0 _ _ _ _ _ _ _
      | exact impl_ComposeMotions.mono _ _ _ _ _ _ _ _ _ _
      | exact laws_eqTiling.mono _ _ _ _ _ _ _
      | exact laws_toTiling.mono _ _ _ _
      | exact spec_ComposeMotions.mono _ _ _ _ _ _ _ _ _ _
      | exact LeO.none _
      | refine LeO.ite ?_ ?_
      | refine LeO.bind ?_ (fun _ => ?_)
theorem laws_FnExactComposeMotions.mono : ∀ a0 a1 a2 a3 a4 a5 a6 a7 a8 k, LeO (laws_FnExactComposeMotions.f k a0 a1 a2 a3 a4 a5 a6 a7 a8) (laws_FnExactComposeMotions.f (k + 1) a0 a1 a2 a3 a4 a5 a6 a7 a8) := by
  intro a0 a1 a2 a3 a4 a5 a6 a7 a8 k
  have ih0 := laws_FnExactComposeMotions.mono_l k
  unfold laws_FnExactComposeMotions.f
  repeat' first
      | (with_reducible exact ih0 _ _ _ _ _ _ _)
      | (with_reducible exact impl_ComposeMotions.mono _ _ _ _ _ _ _ _ _ _)
      | (with_reducible exact laws_eqTiling.mono _ _ _ _ _ _ _)
      | (with_reducible exact laws_toTiling.mono _ _ _ _)
      | (with_reducible exact spec_ComposeMotions.mono _ _ _ _ _ _ _ _ _ _)
      | (with_reducible exact LeO.refl _)
      | (with_reducible exact LeO.none _)
      | (with_reducible refine LeO.ite ?_ ?_)
      | (with_reducible refine LeO.bind ?_ (fun _ => ?_))
      | exact ih0 _ _ _ _ _ _ _
      | exact impl_ComposeMotions.mono _ _ _ _ _ _ _ _ _ _
      | exact laws_eqTiling.mono _ _ _ _ _ _ _
      | exact laws_toTiling.mono _ _ _ _
      | exact spec_ComposeMotions.mono _ _ _ _ _ _ _ _ _ _
      | exact LeO.none _
      | refine LeO.ite ?_ ?_
      | refine LeO.bind ?_ (fun _ => ?_)
def laws_FnExactComposeMotions.T5 : Bool × List (List Nat × List Nat) := (true, [([], []), ([0], [0]), ([], []), ([2, 1], [2]), ([], []), ([4, 3], [4]), ([1, 3, 5, 5], [1, 3, 5]), ([6], [6]), ([7], [7]), ([7], [7]), ([], []), ([10, 8, 6, 0, 1, 2, 3, 4, 5, 6, 7, 8, 10], [8, 10]), ([9, 11, 0, 1, 2, 3, 4, 5, 6, 7, 8, 9, 10, 11], [9])])
def laws_FnExactComposeMotions.B5 : List Nat := [0, 1, 0, 7, 0, 31, 63, 127, 255, 255, 0, 1535, 4095]
theorem laws_FnExactComposeMotions.tab5 : rtab .any (opsOf Try.f9 5) = laws_FnExactComposeMotions.T5 := by kernel_rfl
theorem laws_FnExactComposeMotions.bits5 : waitsOk laws_FnExactComposeMotions.T5.2 laws_FnExactComposeMotions.B5 = true := by kernel_rfl
def laws_FnExactComposeMotions.T7 : Bool × List (List Nat × List Nat) := (true, [([], []), ([], []), ([1], [1]), ([], []), ([3, 2], [3]), ([0, 2, 4, 4], [0, 2, 4]), ([5], [5]), ([6], [6]), ([6], [6]), ([], []), ([9, 7, 5, 0, 1, 2, 3, 4, 5, 6, 7, 9], [7, 9]), ([8, 10, 0, 1, 2, 3, 4, 5, 6, 7, 8, 9, 10], [8])])
def laws_FnExactComposeMotions.B7 : List Nat := [0, 0, 2, 0, 14, 31, 63, 127, 127, 0, 767, 2047]
theorem laws_FnExactComposeMotions.tab7 : rtab .any (opsOf Try.f9 7) = laws_FnExactComposeMotions.T7 := by kernel_rfl
theorem laws_FnExactComposeMotions.bits7 : waitsOk laws_FnExactComposeMotions.T7.2 laws_FnExactComposeMotions.B7 = true := by kernel_rfl
open List renaming setIfInBounds_toArray → sA, set_cons_zero → sB, set_cons_succ → sC
open Go.Proofs.YtnidibnhojedoaaW.PrintWords.Aside0 renaming mk → mkA
open Go.Proofs.YtnidibnhojedoaaX (dt_ bc_ p0_ p1_ bl_ cb_ bs0_ bs1_ bs2_ bs3_ bs4_ bs5_ bs6_ bs7_ bs8_ bs9_ bs10_ bs11_ bs12_)
abbrev laws_FnExactComposeMotions.d0 : Array Bool := #[false, false, false, false, false, false, false, false, false, false, false, false, false]
abbrev laws_FnExactComposeMotions.d1 : Array Bool := #[true, false, false, false, false, false, false, false, false, false, false, false, false]
abbrev laws_FnExactComposeMotions.d2 : Array Bool := #[true, false, true, false, false, false, false, false, false, false, false, false, false]
abbrev laws_FnExactComposeMotions.d3 : Array Bool := #[true, false, true, false, true, false, false, false, false, false, false, false, false]
abbrev laws_FnExactComposeMotions.d4 : Array Bool := #[true, true, true, true, true, true, true, true, true, true, true, false, false]
abbrev laws_FnExactComposeMotions.d5 : Array Bool := #[true, true, true, true, true, true, true, true, true, true, false, false, false]
abbrev laws_FnExactComposeMotions.d6 : Array Bool := #[true, true, true, true, true, true, false, false, false, false, true, false, false]
abbrev laws_FnExactComposeMotions.d7 : Array Bool := #[true, true, true, true, true, true, false, false, false, false, false, false, false]
abbrev laws_FnExactComposeMotions.d8 : Array Bool := #[true, true, true, true, true, false, false, false, false, false, true, false, false]
abbrev laws_FnExactComposeMotions.d9 : Array Bool := #[true, true, true, true, true, false, false, false, false, false, false, false, false]
abbrev laws_FnExactComposeMotions.d10 : Array Bool := #[true, true, true, false, true, false, false, false, false, false, true, false, false]
abbrev laws_FnExactComposeMotions.d11 : Array Bool := #[true, true, true, false, true, false, false, false, false, false, false, false, false]
abbrev laws_FnExactComposeMotions.d12 : Array Bool := #[true, false, true, false, true, false, false, false, false, false, true, false, false]
abbrev laws_FnExactComposeMotions.d13 : Array Bool := #[true, true, true, true, true, true, true, false, false, false, false, false, false]
abbrev laws_FnExactComposeMotions.d14 : Array Bool := #[true, true, true, true, true, true, true, true, false, false, false, false, false]
abbrev laws_FnExactComposeMotions.d15 : Array Bool := #[true, true, true, true, true, true, true, true, true, false, false, false, false]
abbrev laws_FnExactComposeMotions.d16 : Array Bool := #[true, true, true, true, true, true, true, false, false, false, true, false, false]
abbrev laws_FnExactComposeMotions.d17 : Array Bool := #[true, true, true, true, true, true, true, true, false, false, true, false, false]
abbrev laws_FnExactComposeMotions.d18 : Array Bool := #[true, true, true, true, true, true, true, true, true, false, true, false, false]
abbrev laws_FnExactComposeMotions.d19 : Array Bool := #[true, true, true, true, true, true, true, true, true, true, true, true, false]
abbrev laws_FnExactComposeMotions.d20 : Array Bool := #[true, true, true, true, true, true, true, true, true, true, true, true, true]
abbrev laws_FnExactComposeMotions.d21 : Array Bool := #[false, false, false, false, false, false, false, false, false, false, false, false]
abbrev laws_FnExactComposeMotions.d22 : Array Bool := #[true, false, false, false, false, false, false, false, false, false, false, false]
abbrev laws_FnExactComposeMotions.d23 : Array Bool := #[true, true, false, false, false, false, false, false, false, false, false, false]
abbrev laws_FnExactComposeMotions.d24 : Array Bool := #[true, true, false, true, false, false, false, false, false, false, false, false]
abbrev laws_FnExactComposeMotions.d25 : Array Bool := #[true, true, true, true, true, true, true, true, true, true, false, false]
abbrev laws_FnExactComposeMotions.d26 : Array Bool := #[true, true, true, true, false, false, false, false, false, false, false, false]
abbrev laws_FnExactComposeMotions.d27 : Array Bool := #[true, true, false, true, false, false, false, false, false, true, false, false]
abbrev laws_FnExactComposeMotions.d28 : Array Bool := #[true, true, true, true, true, false, false, false, false, false, false, false]
abbrev laws_FnExactComposeMotions.d29 : Array Bool := #[true, true, true, true, false, false, false, false, false, true, false, false]
abbrev laws_FnExactComposeMotions.d30 : Array Bool := #[true, true, true, true, true, true, false, false, false, false, false, false]
abbrev laws_FnExactComposeMotions.d31 : Array Bool := #[true, true, true, true, true, false, false, false, false, true, false, false]
abbrev laws_FnExactComposeMotions.d32 : Array Bool := #[true, true, true, true, true, true, true, false, false, false, false, false]
abbrev laws_FnExactComposeMotions.d33 : Array Bool := #[true, true, true, true, true, true, true, true, false, false, false, false]
abbrev laws_FnExactComposeMotions.d34 : Array Bool := #[true, true, true, true, true, true, true, true, true, false, false, false]
abbrev laws_FnExactComposeMotions.d35 : Array Bool := #[true, true, true, true, true, true, false, false, false, true, false, false]
abbrev laws_FnExactComposeMotions.d36 : Array Bool := #[true, true, true, true, true, true, true, false, false, true, false, false]
abbrev laws_FnExactComposeMotions.d37 : Array Bool := #[true, true, true, true, true, true, true, true, false, true, false, false]
abbrev laws_FnExactComposeMotions.d38 : Array Bool := #[true, true, true, true, true, true, true, true, true, true, true, false]
abbrev laws_FnExactComposeMotions.d39 : Array Bool := #[true, true, true, true, true, true, true, true, true, true, true, true]
set_option maxHeartbeats 8000000 in
set_option maxRecDepth 100000 in
theorem laws_FnExactComposeMotions.calls (k : Nat) (a0_0 : Int) (a0_1 : Int) (A0_2 : Option Addr) (c0_2 : Nat) (l0_2 : List Int) (a1_0 : Int) (a1_1 : Int) (a1_2 : Int) (a2_0 : Int) (a2_1 : Int) (a2_2 : Int) (r : Bool) (w : World) (hr0_2 : Kd.C (Kd.int .i64) w A0_2 l0_2.length l0_2) (hc0_2 : l0_2.length ≤ c0_2) (h : laws_FnExactComposeMotions.f k a0_0 a0_1 l0_2 a1_0 a1_1 a1_2 a2_0 a2_1 a2_2 = some r) :
 Calls Try.prog 9 #[.agg #[.int .i64 a0_0, .int .i64 a0_1, .slice A0_2 l0_2.length c0_2], .agg #[.int .i64 a1_0, .int .i64 a1_1, .int .i64 a1_2], .agg #[.int .i64 a2_0, .int .i64 a2_1, .int .i64 a2_2]] w fun e w' => e = .returned (.bool r) ∧ Below w.heap.size w w' := by
 have hu24 := Try.underlying24
 have hu26 := Try.underlying26
 have hu31 := Try.underlying31
 have hu29 := Try.underlying29
 have HR0_2 := mkA hr0_2
 have HC0_2 := mkA hc0_2
 clear hr0_2 hc0_2
 have HB := mkA (Below.refl w.heap.size w)
 have H : ((laws_szTiling.f a0_0 a0_1 l0_2 1048576).bind fun t318 => (if t318 < 0 then (some true) else ((laws_toTiling.f k a0_0 a0_1 l0_2).bind fun bt319 => ((laws_toMotion.f a1_0 a1_1 a1_2).bind fun bt324 => ((laws_toMotion.f a2_0 a2_1 a2_2).bind fun bt327 => ((spec_ComposeMotions.f k bt319.1 bt319.2.1 bt319.2.2 bt324.1 bt324.2.1 bt324.2.2 bt327.1 bt327.2.1 bt327.2.2).bind fun bt330 => ((laws_toTiling.f k a0_0 a0_1 l0_2).bind fun bt335 => ((laws_toMotion.f a1_0 a1_1 a1_2).bind fun bt341 => ((laws_toMotion.f a2_0 a2_1 a2_2).bind fun bt344 => ((impl_ComposeMotions.f k bt335.1 bt335.2.1 bt335.2.2 bt341.1 bt341.2.1 bt341.2.2 bt344.1 bt344.2.1 bt344.2.2).bind fun bt347 => ((laws_eqMotion.f bt347.1 bt347.2.1 bt347.2.2.1 bt330.1 bt330.2.1 bt330.2.2.1).bind fun t352 => (if t352 = true then (laws_FnExactComposeMotions.j0 k (bt347.2.2.2 != bt330.2.2.2) a0_0 a0_1 l0_2 bt335.1 bt335.2.1 bt335.2.2) else (laws_FnExactComposeMotions.j0 k true a0_0 a0_1 l0_2 bt335.1 bt335.2.1 bt335.2.2))))))))))))) = some r := h
 clear h
 replace H := Option.bind_eq_some_iff.mp H
 obtain ⟨t318, A40, H⟩ := H
 replace H : (if t318 < 0 then (some true) else ((laws_toTiling.f k a0_0 a0_1 l0_2).bind fun bt319 => ((laws_toMotion.f a1_0 a1_1 a1_2).bind fun bt324 => ((laws_toMotion.f a2_0 a2_1 a2_2).bind fun bt327 => ((spec_ComposeMotions.f k bt319.1 bt319.2.1 bt319.2.2 bt324.1 bt324.2.1 bt324.2.2 bt327.1 bt327.2.1 bt327.2.2).bind fun bt330 => ((laws_toTiling.f k a0_0 a0_1 l0_2).bind fun bt335 => ((laws_toMotion.f a1_0 a1_1 a1_2).bind fun bt341 => ((laws_toMotion.f a2_0 a2_1 a2_2).bind fun bt344 => ((impl_ComposeMotions.f k bt335.1 bt335.2.1 bt335.2.2 bt341.1 bt341.2.1 bt341.2.2 bt344.1 bt344.2.1 bt344.2.2).bind fun bt347 => ((laws_eqMotion.f bt347.1 bt347.2.1 bt347.2.2.1 bt330.1 bt330.2.1 bt330.2.2.1).bind fun t352 => (if t352 = true then (laws_FnExactComposeMotions.j0 k (bt347.2.2.2 != bt330.2.2.2) a0_0 a0_1 l0_2 bt335.1 bt335.2.1 bt335.2.2) else (laws_FnExactComposeMotions.j0 k true a0_0 a0_1 l0_2 bt335.1 bt335.2.1 bt335.2.2)))))))))))) = some r := H
 have A4 := mkA A40
 clear A40
 by_cases c5 : t318 < 0
 · rw [if_pos c5] at H
   have c5b0 : decide (t318 < 0) = true := decide_eq_true c5
   clear c5
   obtain rfl := Option.some.inj H
   go_enter Try.func9, Try.ntmps9
   go_wp2_with (first | ((with_reducible refine gate_dst (N := 3) rfl ?_); refine box_event ?hg (N := 3) ?hd (cs := #[.int .i64 a0_0, .int .i64 a0_1, .slice A0_2 l0_2.length c0_2]) (t := 24) ?hr ?_; (case hd => rfl); (case hg => rfl); (case hr => first | (go_simp; done) | (go_simp; rfl)); intro gb315 hg w6 hbox hb; have n0_ := mkA (below_step (bs0_ HB.out) hb); have n1_ := mkA (hbox); have n2_ := mkA ((by rw [hg]; exact (below_size (bs0_ HB.out)) : w.heap.size ≤ gb315)); have n3_ := mkA ((by rw [hg]; exact (below_size (bs0_ HB.out)) : w.heap.size ≤ gb315)); clear HB; have HB := n0_; have BK315 := n1_; have GW315 := n2_; have GE315 := n3_; clear n0_ n1_ n2_ n3_; clear hb hbox hg) | ((with_reducible refine gate_dst (N := 4) rfl ?_); refine box_event ?hg (N := 4) ?hd (cs := #[.int .i64 a1_0, .int .i64 a1_1, .int .i64 a1_2]) (t := 26) ?hr ?_; (case hd => rfl); (case hg => rfl); (case hr => first | (go_simp; done) | (go_simp; rfl)); intro gb316 hg w7 hbox hb; have n0_ := mkA (blk_below (g := gb315) (o := .cells #[.int .i64 a0_0, .int .i64 a0_1, .slice A0_2 l0_2.length c0_2] 24 (0, 0)) (bl_ BK315.out) hb); have n1_ := mkA (below_step (bs1_ HB.out GE315.out) hb); have n2_ := mkA (hbox); have n3_ := mkA ((by rw [hg]; exact (below_size (bs1_ HB.out GE315.out)) : w.heap.size ≤ gb316)); have n4_ := mkA ((by rw [hg]; exact (below_size (bs1_ HB.out GE315.out)) : w.heap.size ≤ gb316)); have n5_ := mkA ((by rw [hg]; exact Nat.ne_of_lt (blk_lt (g := gb315) (o := .cells #[.int .i64 a0_0, .int .i64 a0_1, .slice A0_2 l0_2.length c0_2] 24 (0, 0)) (bl_ BK315.out)) : gb315 ≠ gb316)); have n6_ := mkA ((by rw [hg]; exact Nat.ne_of_gt (blk_lt (g := gb315) (o := .cells #[.int .i64 a0_0, .int .i64 a0_1, .slice A0_2 l0_2.length c0_2] 24 (0, 0)) (bl_ BK315.out)) : gb316 ≠ gb315)); clear BK315; clear HB; have BK315 := n0_; have HB := n1_; have BK316 := n2_; have GW316 := n3_; have GE316 := n4_; have NB315_316 := n5_; have NB316_315 := n6_; clear n0_ n1_ n2_ n3_ n4_ n5_ n6_; clear hb hbox hg) | ((with_reducible refine gate_dst (N := 5) rfl ?_); refine box_event ?hg (N := 5) ?hd (cs := #[.int .i64 a2_0, .int .i64 a2_1, .int .i64 a2_2]) (t := 26) ?hr ?_; (case hd => rfl); (case hg => rfl); (case hr => first | (go_simp; done) | (go_simp; rfl)); intro gb317 hg w8 hbox hb; have n0_ := mkA (blk_below (g := gb315) (o := .cells #[.int .i64 a0_0, .int .i64 a0_1, .slice A0_2 l0_2.length c0_2] 24 (0, 0)) (bl_ BK315.out) hb); have n1_ := mkA (blk_below (g := gb316) (o := .cells #[.int .i64 a1_0, .int .i64 a1_1, .int .i64 a1_2] 26 (0, 0)) (bl_ BK316.out) hb); have n2_ := mkA (below_step (bs2_ HB.out GE315.out GE316.out) hb); have n3_ := mkA (hbox); have n4_ := mkA ((by rw [hg]; exact (below_size (bs2_ HB.out GE315.out GE316.out)) : w.heap.size ≤ gb317)); have n5_ := mkA ((by rw [hg]; exact (below_size (bs2_ HB.out GE315.out GE316.out)) : w.heap.size ≤ gb317)); have n6_ := mkA ((by rw [hg]; exact Nat.ne_of_lt (blk_lt (g := gb315) (o := .cells #[.int .i64 a0_0, .int .i64 a0_1, .slice A0_2 l0_2.length c0_2] 24 (0, 0)) (bl_ BK315.out)) : gb315 ≠ gb317)); have n7_ := mkA ((by rw [hg]; exact Nat.ne_of_gt (blk_lt (g := gb315) (o := .cells #[.int .i64 a0_0, .int .i64 a0_1, .slice A0_2 l0_2.length c0_2] 24 (0, 0)) (bl_ BK315.out)) : gb317 ≠ gb315)); have n8_ := mkA ((by rw [hg]; exact Nat.ne_of_lt (blk_lt (g := gb316) (o := .cells #[.int .i64 a1_0, .int .i64 a1_1, .int .i64 a1_2] 26 (0, 0)) (bl_ BK316.out)) : gb316 ≠ gb317)); have n9_ := mkA ((by rw [hg]; exact Nat.ne_of_gt (blk_lt (g := gb316) (o := .cells #[.int .i64 a1_0, .int .i64 a1_1, .int .i64 a1_2] 26 (0, 0)) (bl_ BK316.out)) : gb317 ≠ gb316)); clear BK315; clear BK316; clear HB; have BK315 := n0_; have BK316 := n1_; have HB := n2_; have BK317 := n3_; have GW317 := n4_; have GE317 := n5_; have NB315_317 := n6_; have NB317_315 := n7_; have NB316_317 := n8_; have NB317_316 := n9_; clear n0_ n1_ n2_ n3_ n4_ n5_ n6_ n7_ n8_ n9_; clear hb hbox hg; have hnb9 := NB315_316.out; have hnc9 := NB316_315.out; have hnb10 := NB315_317.out; have hnc10 := NB317_315.out; have hcz11_0 : w8.cell? ⟨gb315, 0, none⟩ = some (.int .i64 a0_0) := (blk_cell BK315.out 0).trans rfl; have hcz11_1 : w8.cell? ⟨gb315, 1, none⟩ = some (.int .i64 a0_1) := (blk_cell BK315.out 1).trans rfl; have hcz11_2 : w8.cell? ⟨gb315, 2, none⟩ = some (.slice A0_2 l0_2.length c0_2) := (blk_cell BK315.out 2).trans rfl; have hfz11_0 := blk_frozen BK315.out 0; have hfz11_1 := blk_frozen BK315.out 1; have hfz11_2 := blk_frozen BK315.out 2) | ((with_reducible refine gate_callee (f := 15) rfl ?_); refine goesL_ (some 15) rfl rfl Try.func15 (by kernel_rfl) rfl #[.agg #[.int .i64 a0_0, .int .i64 a0_1, .slice A0_2 l0_2.length c0_2], .int .i64 1048576] rfl (by (try simp only [List.map_toArray, List.map_cons, List.map_nil]); first | done | rfl | (simp only [List.length_drop, List.length_take]; rfl)) ?_; (with_reducible refine (laws_szTiling.calls a0_0 a0_1 _ _ l0_2 1048576 t318 _ ?side1 ?side2 A4.out).mono ?_); (case side1 => exact cb_ HR0_2.out HB.out); (case side2 => exact HC0_2.out); rintro e w12 ⟨rfl, hb⟩; refine ⟨_, rfl, ?_⟩; have n0_ := mkA (blk_below (g := gb315) (o := .cells #[.int .i64 a0_0, .int .i64 a0_1, .slice A0_2 l0_2.length c0_2] 24 (0, 0)) (bl_ BK315.out) hb); have n1_ := mkA (blk_below (g := gb316) (o := .cells #[.int .i64 a1_0, .int .i64 a1_1, .int .i64 a1_2] 26 (0, 0)) (bl_ BK316.out) hb); have n2_ := mkA (blk_below (g := gb317) (o := .cells #[.int .i64 a2_0, .int .i64 a2_1, .int .i64 a2_2] 26 (0, 0)) (bl_ BK317.out) hb); have n3_ := mkA (below_step (bs3_ HB.out GE315.out GE316.out GE317.out) hb); clear BK315; clear BK316; clear BK317; clear HB; have BK315 := n0_; have BK316 := n1_; have BK317 := n2_; have HB := n3_; clear n0_ n1_ n2_ n3_; (try clear hb); (try clear hb2); (try clear hk); (try clear hi)))
   go_ret
   exact ⟨by first | rfl | (simp [errW_none, errW_some] <;> rfl) | (simp [*, errW_none, errW_some] <;> rfl), by repeat (first | (with_reducible first | exact HB.out | apply below_alloc | apply pw_below_drewN | apply below_drew1 | refine below_set ?_ GE315.out | refine below_set ?_ GE316.out | refine below_set ?_ GE317.out) | exact HB.out)⟩
 · rw [if_neg c5] at H
   have c5b0 : decide (t318 < 0) = false := decide_eq_false c5
   clear c5
   replace H := Option.bind_eq_some_iff.mp H
   obtain ⟨⟨t319, t320, t321⟩, A130, H⟩ := H
   replace H : ((laws_toMotion.f a1_0 a1_1 a1_2).bind fun bt324 => ((laws_toMotion.f a2_0 a2_1 a2_2).bind fun bt327 => ((spec_ComposeMotions.f k t319 t320 t321 bt324.1 bt324.2.1 bt324.2.2 bt327.1 bt327.2.1 bt327.2.2).bind fun bt330 => ((laws_toTiling.f k a0_0 a0_1 l0_2).bind fun bt335 => ((laws_toMotion.f a1_0 a1_1 a1_2).bind fun bt341 => ((laws_toMotion.f a2_0 a2_1 a2_2).bind fun bt344 => ((impl_ComposeMotions.f k bt335.1 bt335.2.1 bt335.2.2 bt341.1 bt341.2.1 bt341.2.2 bt344.1 bt344.2.1 bt344.2.2).bind fun bt347 => ((laws_eqMotion.f bt347.1 bt347.2.1 bt347.2.2.1 bt330.1 bt330.2.1 bt330.2.2.1).bind fun t352 => (if t352 = true then (laws_FnExactComposeMotions.j0 k (bt347.2.2.2 != bt330.2.2.2) a0_0 a0_1 l0_2 bt335.1 bt335.2.1 bt335.2.2) else (laws_FnExactComposeMotions.j0 k true a0_0 a0_1 l0_2 bt335.1 bt335.2.1 bt335.2.2)))))))))) = some r := H
   have A13 := mkA A130
   clear A130
   replace H := Option.bind_eq_some_iff.mp H
   obtain ⟨⟨t324, t325, t326⟩, A140, H⟩ := H
   replace H : ((laws_toMotion.f a2_0 a2_1 a2_2).bind fun bt327 => ((spec_ComposeMotions.f k t319 t320 t321 t324 t325 t326 bt327.1 bt327.2.1 bt327.2.2).bind fun bt330 => ((laws_toTiling.f k a0_0 a0_1 l0_2).bind fun bt335 => ((laws_toMotion.f a1_0 a1_1 a1_2).bind fun bt341 => ((laws_toMotion.f a2_0 a2_1 a2_2).bind fun bt344 => ((impl_ComposeMotions.f k bt335.1 bt335.2.1 bt335.2.2 bt341.1 bt341.2.1 bt341.2.2 bt344.1 bt344.2.1 bt344.2.2).bind fun bt347 => ((laws_eqMotion.f bt347.1 bt347.2.1 bt347.2.2.1 bt330.1 bt330.2.1 bt330.2.2.1).bind fun t352 => (if t352 = true then (laws_FnExactComposeMotions.j0 k (bt347.2.2.2 != bt330.2.2.2) a0_0 a0_1 l0_2 bt335.1 bt335.2.1 bt335.2.2) else (laws_FnExactComposeMotions.j0 k true a0_0 a0_1 l0_2 bt335.1 bt335.2.1 bt335.2.2))))))))) = some r := H
   have A14 := mkA A140
   clear A140
   replace H := Option.bind_eq_some_iff.mp H
   obtain ⟨⟨t327, t328, t329⟩, A150, H⟩ := H
   replace H : ((spec_ComposeMotions.f k t319 t320 t321 t324 t325 t326 t327 t328 t329).bind fun bt330 => ((laws_toTiling.f k a0_0 a0_1 l0_2).bind fun bt335 => ((laws_toMotion.f a1_0 a1_1 a1_2).bind fun bt341 => ((laws_toMotion.f a2_0 a2_1 a2_2).bind fun bt344 => ((impl_ComposeMotions.f k bt335.1 bt335.2.1 bt335.2.2 bt341.1 bt341.2.1 bt341.2.2 bt344.1 bt344.2.1 bt344.2.2).bind fun bt347 => ((laws_eqMotion.f bt347.1 bt347.2.1 bt347.2.2.1 bt330.1 bt330.2.1 bt330.2.2.1).bind fun t352 => (if t352 = true then (laws_FnExactComposeMotions.j0 k (bt347.2.2.2 != bt330.2.2.2) a0_0 a0_1 l0_2 bt335.1 bt335.2.1 bt335.2.2) else (laws_FnExactComposeMotions.j0 k true a0_0 a0_1 l0_2 bt335.1 bt335.2.1 bt335.2.2)))))))) = some r := H
   have A15 := mkA A150
   clear A150
   replace H := Option.bind_eq_some_iff.mp H
   obtain ⟨⟨t330, t331, t332, t333⟩, A160, H⟩ := H
   replace H : ((laws_toTiling.f k a0_0 a0_1 l0_2).bind fun bt335 => ((laws_toMotion.f a1_0 a1_1 a1_2).bind fun bt341 => ((laws_toMotion.f a2_0 a2_1 a2_2).bind fun bt344 => ((impl_ComposeMotions.f k bt335.1 bt335.2.1 bt335.2.2 bt341.1 bt341.2.1 bt341.2.2 bt344.1 bt344.2.1 bt344.2.2).bind fun bt347 => ((laws_eqMotion.f bt347.1 bt347.2.1 bt347.2.2.1 t330 t331 t332).bind fun t352 => (if t352 = true then (laws_FnExactComposeMotions.j0 k (bt347.2.2.2 != t333) a0_0 a0_1 l0_2 bt335.1 bt335.2.1 bt335.2.2) else (laws_FnExactComposeMotions.j0 k true a0_0 a0_1 l0_2 bt335.1 bt335.2.1 bt335.2.2))))))) = some r := H
   have A16 := mkA A160
   clear A160
   replace H := Option.bind_eq_some_iff.mp H
   obtain ⟨⟨t335, t336, t337⟩, A170, H⟩ := H
   replace H : ((laws_toMotion.f a1_0 a1_1 a1_2).bind fun bt341 => ((laws_toMotion.f a2_0 a2_1 a2_2).bind fun bt344 => ((impl_ComposeMotions.f k t335 t336 t337 bt341.1 bt341.2.1 bt341.2.2 bt344.1 bt344.2.1 bt344.2.2).bind fun bt347 => ((laws_eqMotion.f bt347.1 bt347.2.1 bt347.2.2.1 t330 t331 t332).bind fun t352 => (if t352 = true then (laws_FnExactComposeMotions.j0 k (bt347.2.2.2 != t333) a0_0 a0_1 l0_2 t335 t336 t337) else (laws_FnExactComposeMotions.j0 k true a0_0 a0_1 l0_2 t335 t336 t337)))))) = some r := H
   have A17 := mkA A170
   clear A170
   replace H := Option.bind_eq_some_iff.mp H
   obtain ⟨⟨t341, t342, t343⟩, A180, H⟩ := H
   replace H : ((laws_toMotion.f a2_0 a2_1 a2_2).bind fun bt344 => ((impl_ComposeMotions.f k t335 t336 t337 t341 t342 t343 bt344.1 bt344.2.1 bt344.2.2).bind fun bt347 => ((laws_eqMotion.f bt347.1 bt347.2.1 bt347.2.2.1 t330 t331 t332).bind fun t352 => (if t352 = true then (laws_FnExactComposeMotions.j0 k (bt347.2.2.2 != t333) a0_0 a0_1 l0_2 t335 t336 t337) else (laws_FnExactComposeMotions.j0 k true a0_0 a0_1 l0_2 t335 t336 t337))))) = some r := H
   have A18 := mkA A180
   clear A180
   replace H := Option.bind_eq_some_iff.mp H
   obtain ⟨⟨t344, t345, t346⟩, A190, H⟩ := H
   replace H : ((impl_ComposeMotions.f k t335 t336 t337 t341 t342 t343 t344 t345 t346).bind fun bt347 => ((laws_eqMotion.f bt347.1 bt347.2.1 bt347.2.2.1 t330 t331 t332).bind fun t352 => (if t352 = true then (laws_FnExactComposeMotions.j0 k (bt347.2.2.2 != t333) a0_0 a0_1 l0_2 t335 t336 t337) else (laws_FnExactComposeMotions.j0 k true a0_0 a0_1 l0_2 t335 t336 t337)))) = some r := H
   have A19 := mkA A190
   clear A190
   replace H := Option.bind_eq_some_iff.mp H
   obtain ⟨⟨t347, t348, t349, t350⟩, A200, H⟩ := H
   replace H : ((laws_eqMotion.f t347 t348 t349 t330 t331 t332).bind fun t352 => (if t352 = true then (laws_FnExactComposeMotions.j0 k (t350 != t333) a0_0 a0_1 l0_2 t335 t336 t337) else (laws_FnExactComposeMotions.j0 k true a0_0 a0_1 l0_2 t335 t336 t337))) = some r := H
   have A20 := mkA A200
   clear A200
   have HC21 := mkA H
   clear H
   go_enter Try.func9, Try.ntmps9
   try go_wp2_with (first | ((with_reducible refine gate_dst (N := 3) rfl ?_); refine box_event ?hg (N := 3) ?hd (cs := #[.int .i64 a0_0, .int .i64 a0_1, .slice A0_2 l0_2.length c0_2]) (t := 24) ?hr ?_; (case hd => rfl); (case hg => rfl); (case hr => first | (go_simp; done) | (go_simp; rfl)); intro gb315 hg w22 hbox hb; have n0_ := mkA (below_step (bs0_ HB.out) hb); have n1_ := mkA (hbox); have n2_ := mkA ((by rw [hg]; exact (below_size (bs0_ HB.out)) : w.heap.size ≤ gb315)); have n3_ := mkA ((by rw [hg]; exact (below_size (bs0_ HB.out)) : w.heap.size ≤ gb315)); clear HB; have HB := n0_; have BK315 := n1_; have GW315 := n2_; have GE315 := n3_; clear n0_ n1_ n2_ n3_; clear hb hbox hg) | ((with_reducible refine gate_dst (N := 4) rfl ?_); refine box_event ?hg (N := 4) ?hd (cs := #[.int .i64 a1_0, .int .i64 a1_1, .int .i64 a1_2]) (t := 26) ?hr ?_; (case hd => rfl); (case hg => rfl); (case hr => first | (go_simp; done) | (go_simp; rfl)); intro gb316 hg w23 hbox hb; have n0_ := mkA (blk_below (g := gb315) (o := .cells #[.int .i64 a0_0, .int .i64 a0_1, .slice A0_2 l0_2.length c0_2] 24 (0, 0)) (bl_ BK315.out) hb); have n1_ := mkA (below_step (bs1_ HB.out GE315.out) hb); have n2_ := mkA (hbox); have n3_ := mkA ((by rw [hg]; exact (below_size (bs1_ HB.out GE315.out)) : w.heap.size ≤ gb316)); have n4_ := mkA ((by rw [hg]; exact (below_size (bs1_ HB.out GE315.out)) : w.heap.size ≤ gb316)); have n5_ := mkA ((by rw [hg]; exact Nat.ne_of_lt (blk_lt (g := gb315) (o := .cells #[.int .i64 a0_0, .int .i64 a0_1, .slice A0_2 l0_2.length c0_2] 24 (0, 0)) (bl_ BK315.out)) : gb315 ≠ gb316)); have n6_ := mkA ((by rw [hg]; exact Nat.ne_of_gt (blk_lt (g := gb315) (o := .cells #[.int .i64 a0_0, .int .i64 a0_1, .slice A0_2 l0_2.length c0_2] 24 (0, 0)) (bl_ BK315.out)) : gb316 ≠ gb315)); clear BK315; clear HB; have BK315 := n0_; have HB := n1_; have BK316 := n2_; have GW316 := n3_; have GE316 := n4_; have NB315_316 := n5_; have NB316_315 := n6_; clear n0_ n1_ n2_ n3_ n4_ n5_ n6_; clear hb hbox hg) | ((with_reducible refine gate_dst (N := 5) rfl ?_); refine box_event ?hg (N := 5) ?hd (cs := #[.int .i64 a2_0, .int .i64 a2_1, .int .i64 a2_2]) (t := 26) ?hr ?_; (case hd => rfl); (case hg => rfl); (case hr => first | (go_simp; done) | (go_simp; rfl)); intro gb317 hg w24 hbox hb; have n0_ := mkA (blk_below (g := gb315) (o := .cells #[.int .i64 a0_0, .int .i64 a0_1, .slice A0_2 l0_2.length c0_2] 24 (0, 0)) (bl_ BK315.out) hb); have n1_ := mkA (blk_below (g := gb316) (o := .cells #[.int .i64 a1_0, .int .i64 a1_1, .int .i64 a1_2] 26 (0, 0)) (bl_ BK316.out) hb); have n2_ := mkA (below_step (bs2_ HB.out GE315.out GE316.out) hb); have n3_ := mkA (hbox); have n4_ := mkA ((by rw [hg]; exact (below_size (bs2_ HB.out GE315.out GE316.out)) : w.heap.size ≤ gb317)); have n5_ := mkA ((by rw [hg]; exact (below_size (bs2_ HB.out GE315.out GE316.out)) : w.heap.size ≤ gb317)); have n6_ := mkA ((by rw [hg]; exact Nat.ne_of_lt (blk_lt (g := gb315) (o := .cells #[.int .i64 a0_0, .int .i64 a0_1, .slice A0_2 l0_2.length c0_2] 24 (0, 0)) (bl_ BK315.out)) : gb315 ≠ gb317)); have n7_ := mkA ((by rw [hg]; exact Nat.ne_of_gt (blk_lt (g := gb315) (o := .cells #[.int .i64 a0_0, .int .i64 a0_1, .slice A0_2 l0_2.length c0_2] 24 (0, 0)) (bl_ BK315.out)) : gb317 ≠ gb315)); have n8_ := mkA ((by rw [hg]; exact Nat.ne_of_lt (blk_lt (g := gb316) (o := .cells #[.int .i64 a1_0, .int .i64 a1_1, .int .i64 a1_2] 26 (0, 0)) (bl_ BK316.out)) : gb316 ≠ gb317)); have n9_ := mkA ((by rw [hg]; exact Nat.ne_of_gt (blk_lt (g := gb316) (o := .cells #[.int .i64 a1_0, .int .i64 a1_1, .int .i64 a1_2] 26 (0, 0)) (bl_ BK316.out)) : gb317 ≠ gb316)); clear BK315; clear BK316; clear HB; have BK315 := n0_; have BK316 := n1_; have HB := n2_; have BK317 := n3_; have GW317 := n4_; have GE317 := n5_; have NB315_317 := n6_; have NB317_315 := n7_; have NB316_317 := n8_; have NB317_316 := n9_; clear n0_ n1_ n2_ n3_ n4_ n5_ n6_ n7_ n8_ n9_; clear hb hbox hg; have hnb25 := NB315_316.out; have hnc25 := NB316_315.out; have hnb26 := NB315_317.out; have hnc26 := NB317_315.out; have hcz27_0 : w24.cell? ⟨gb315, 0, none⟩ = some (.int .i64 a0_0) := (blk_cell BK315.out 0).trans rfl; have hcz27_1 : w24.cell? ⟨gb315, 1, none⟩ = some (.int .i64 a0_1) := (blk_cell BK315.out 1).trans rfl; have hcz27_2 : w24.cell? ⟨gb315, 2, none⟩ = some (.slice A0_2 l0_2.length c0_2) := (blk_cell BK315.out 2).trans rfl; have hfz27_0 := blk_frozen BK315.out 0; have hfz27_1 := blk_frozen BK315.out 1; have hfz27_2 := blk_frozen BK315.out 2) | ((with_reducible refine gate_callee (f := 15) rfl ?_); refine goesL_ (some 15) rfl rfl Try.func15 (by kernel_rfl) rfl #[.agg #[.int .i64 a0_0, .int .i64 a0_1, .slice A0_2 l0_2.length c0_2], .int .i64 1048576] rfl (by (try simp only [List.map_toArray, List.map_cons, List.map_nil]); first | done | rfl | (simp only [List.length_drop, List.length_take]; rfl)) ?_; (with_reducible refine (laws_szTiling.calls a0_0 a0_1 _ _ l0_2 1048576 t318 _ ?side1 ?side2 A4.out).mono ?_); (case side1 => exact cb_ HR0_2.out HB.out); (case side2 => exact HC0_2.out); rintro e w28 ⟨rfl, hb⟩; refine ⟨_, rfl, ?_⟩; have n0_ := mkA (blk_below (g := gb315) (o := .cells #[.int .i64 a0_0, .int .i64 a0_1, .slice A0_2 l0_2.length c0_2] 24 (0, 0)) (bl_ BK315.out) hb); have n1_ := mkA (blk_below (g := gb316) (o := .cells #[.int .i64 a1_0, .int .i64 a1_1, .int .i64 a1_2] 26 (0, 0)) (bl_ BK316.out) hb); have n2_ := mkA (blk_below (g := gb317) (o := .cells #[.int .i64 a2_0, .int .i64 a2_1, .int .i64 a2_2] 26 (0, 0)) (bl_ BK317.out) hb); have n3_ := mkA (below_step (bs3_ HB.out GE315.out GE316.out GE317.out) hb); clear BK315; clear BK316; clear BK317; clear HB; have BK315 := n0_; have BK316 := n1_; have BK317 := n2_; have HB := n3_; clear n0_ n1_ n2_ n3_; (try clear hb); (try clear hb2); (try clear hk); (try clear hi)))
   have n0_ := mkA (blk_drew BK315.out)
   have n1_ := mkA (blk_drew BK316.out)
   have n2_ := mkA (blk_drew BK317.out)
   have n3_ := mkA (below_drew1 HB.out)
   clear BK315
   clear BK316
   clear BK317
   clear HB
   have BK315 := n0_
   have BK316 := n1_
   have BK317 := n2_
   have HB := n3_
   clear n0_ n1_ n2_ n3_
   refine start_ (n := 13) (S := fun w' => w'.cell? ⟨gb315, 0, none⟩ = some (.int .i64 a0_0) ∧ w'.cell? ⟨gb315, 1, none⟩ = some (.int .i64 a0_1) ∧ w'.cell? ⟨gb315, 2, none⟩ = some (.slice A0_2 l0_2.length c0_2) ∧ w'.cell? ⟨gb316, 0, none⟩ = some (.int .i64 a1_0) ∧ w'.cell? ⟨gb316, 1, none⟩ = some (.int .i64 a1_1) ∧ w'.cell? ⟨gb316, 2, none⟩ = some (.int .i64 a1_2) ∧ w'.cell? ⟨gb317, 0, none⟩ = some (.int .i64 a2_0) ∧ w'.cell? ⟨gb317, 1, none⟩ = some (.int .i64 a2_1) ∧ w'.cell? ⟨gb317, 2, none⟩ = some (.int .i64 a2_2)) (ds := []) laws_FnExactComposeMotions.d0 (by kernel_rfl) rfl rfl ⟨(blk_cell BK315.out 0).trans rfl, (blk_cell BK315.out 1).trans rfl, (blk_cell BK315.out 2).trans rfl, (blk_cell BK316.out 0).trans rfl, (blk_cell BK316.out 1).trans rfl, (blk_cell BK316.out 2).trans rfl, (blk_cell BK317.out 0).trans rfl, (blk_cell BK317.out 1).trans rfl, (blk_cell BK317.out 2).trans rfl⟩ (fun hHeld => ?_); refine with_tabW laws_FnExactComposeMotions.tab5 laws_FnExactComposeMotions.bits5 (fun HT_ HW_ => ?_)
   generalize w28.drew = w29 at BK315 BK316 BK317 HB hHeld ⊢
   refine take_ (i := 0) (N := some 19) (v := ?_) (a' := ?_) laws_FnExactComposeMotions.d1 rfl rfl (take_ofW HT_.out HW_.out (by kernel_rfl)) (fun _ _ _ h => h) (Or.inl ⟨by rfl, ?_⟩) hHeld ?_ ?_
   rotate_left
   · rintro w' ⟨s0, s1, s2, s3, s4, s5, s6, s7, s8⟩
     go_simp
     with_reducible rfl
   rotate_left
   · simp only [Act.put, sA, sB, sC, i64_w, i32_w]
     rfl
   refine take_ (i := 2) (N := some 21) (v := ?_) (a' := ?_) laws_FnExactComposeMotions.d2 rfl rfl (take_ofW HT_.out HW_.out (by kernel_rfl)) (fun _ _ _ h => h) (Or.inl ⟨by rfl, ?_⟩) hHeld ?_ ?_
   rotate_left
   · rintro w' ⟨s0, s1, s2, s3, s4, s5, s6, s7, s8⟩
     go_simp
     with_reducible rfl
   rotate_left
   · simp only [Act.put, sA, sB, sC, i64_w, i32_w]
     rfl
   refine take_ (i := 4) (N := some 23) (v := ?_) (a' := ?_) laws_FnExactComposeMotions.d3 rfl rfl (take_ofW HT_.out HW_.out (by kernel_rfl)) (fun _ _ _ h => h) (Or.inl ⟨by rfl, ?_⟩) hHeld ?_ ?_
   rotate_left
   · rintro w' ⟨s0, s1, s2, s3, s4, s5, s6, s7, s8⟩
     go_simp
     with_reducible rfl
   rotate_left
   · simp only [Act.put, sA, sB, sC, i64_w, i32_w]
     rfl
   refine join_ (σ := Value × Nat) 2 laws_FnExactComposeMotions.d4 (fun s_ => [(20, .agg #[.int .i64 t319, .int .i64 t320, s_.1]), (22, .agg #[.int .i64 t324, .int .i64 t325, .int .i64 t326]), (24, .agg #[.int .i64 t327, .int .i64 t328, .int .i64 t329]), (25, .tuple #[.agg #[.int .i64 t330, .int .i64 t331, .int .i64 t332], .int .i64 t333]), (8, .pointer (some ⟨s_.2, 0, none⟩)), (18, .tuple #[.agg #[.int .i64 t330, .int .i64 t331, .int .i64 t332], .int .i64 t333]), (26, .agg #[.int .i64 t330, .int .i64 t331, .int .i64 t332]), (27, .int .i64 t333)]) (fun s_ w' => (w'.cell? ⟨gb315, 0, none⟩ = some (.int .i64 a0_0) ∧ w'.cell? ⟨gb315, 1, none⟩ = some (.int .i64 a0_1) ∧ w'.cell? ⟨gb315, 2, none⟩ = some (.slice A0_2 l0_2.length c0_2) ∧ w'.cell? ⟨gb316, 0, none⟩ = some (.int .i64 a1_0) ∧ w'.cell? ⟨gb316, 1, none⟩ = some (.int .i64 a1_1) ∧ w'.cell? ⟨gb316, 2, none⟩ = some (.int .i64 a1_2) ∧ w'.cell? ⟨gb317, 0, none⟩ = some (.int .i64 a2_0) ∧ w'.cell? ⟨gb317, 1, none⟩ = some (.int .i64 a2_1) ∧ w'.cell? ⟨gb317, 2, none⟩ = some (.int .i64 a2_2)) ∧ (Kd.R (Kd.int .i64) 2 w' w.heap.size (fun _ => True) s_.1 t321) ∧ (w'.heap[gb315]? = some (.cells #[.int .i64 a0_0, .int .i64 a0_1, .slice A0_2 l0_2.length c0_2] 24 (0, 0))) ∧ (w'.heap[gb316]? = some (.cells #[.int .i64 a1_0, .int .i64 a1_1, .int .i64 a1_2] 26 (0, 0))) ∧ (w'.heap[gb317]? = some (.cells #[.int .i64 a2_0, .int .i64 a2_1, .int .i64 a2_2] 26 (0, 0))) ∧ (w'.heap[s_.2]? = some (.cells #[.int .i64 0, .int .i64 0, .int .i64 0] 31 (0, 0))) ∧ (w.heap.size ≤ s_.2) ∧ (w.heap.size ≤ s_.2) ∧ (gb315 ≠ s_.2) ∧ (s_.2 ≠ gb315) ∧ (gb316 ≠ s_.2) ∧ (s_.2 ≠ gb316) ∧ (gb317 ≠ s_.2) ∧ (s_.2 ≠ gb317) ∧ (Below w.heap.size w w')) ?_ ?_
   rotate_left
   · intro hJ1_3_5_6_10
     refine join_ (σ := Value) 3 laws_FnExactComposeMotions.d5 (fun s_ => [(20, .agg #[.int .i64 t319, .int .i64 t320, s_]), (22, .agg #[.int .i64 t324, .int .i64 t325, .int .i64 t326]), (24, .agg #[.int .i64 t327, .int .i64 t328, .int .i64 t329]), (25, .tuple #[.agg #[.int .i64 t330, .int .i64 t331, .int .i64 t332], .int .i64 t333]), (18, .tuple #[.agg #[.int .i64 t330, .int .i64 t331, .int .i64 t332], .int .i64 t333]), (26, .agg #[.int .i64 t330, .int .i64 t331, .int .i64 t332]), (27, .int .i64 t333)]) (fun s_ w' => (w'.cell? ⟨gb315, 0, none⟩ = some (.int .i64 a0_0) ∧ w'.cell? ⟨gb315, 1, none⟩ = some (.int .i64 a0_1) ∧ w'.cell? ⟨gb315, 2, none⟩ = some (.slice A0_2 l0_2.length c0_2) ∧ w'.cell? ⟨gb316, 0, none⟩ = some (.int .i64 a1_0) ∧ w'.cell? ⟨gb316, 1, none⟩ = some (.int .i64 a1_1) ∧ w'.cell? ⟨gb316, 2, none⟩ = some (.int .i64 a1_2) ∧ w'.cell? ⟨gb317, 0, none⟩ = some (.int .i64 a2_0) ∧ w'.cell? ⟨gb317, 1, none⟩ = some (.int .i64 a2_1) ∧ w'.cell? ⟨gb317, 2, none⟩ = some (.int .i64 a2_2)) ∧ (Kd.R (Kd.int .i64) 2 w' w.heap.size (fun _ => True) s_ t321) ∧ (w'.heap[gb315]? = some (.cells #[.int .i64 a0_0, .int .i64 a0_1, .slice A0_2 l0_2.length c0_2] 24 (0, 0))) ∧ (w'.heap[gb316]? = some (.cells #[.int .i64 a1_0, .int .i64 a1_1, .int .i64 a1_2] 26 (0, 0))) ∧ (w'.heap[gb317]? = some (.cells #[.int .i64 a2_0, .int .i64 a2_1, .int .i64 a2_2] 26 (0, 0))) ∧ (Below w.heap.size w w')) ?_ ?_
     rotate_left
     · intro hJ1_3_5_6
       refine join_ (σ := Value × Nat) 6 laws_FnExactComposeMotions.d6 (fun s_ => [(20, .agg #[.int .i64 t319, .int .i64 t320, s_.1]), (22, .agg #[.int .i64 t324, .int .i64 t325, .int .i64 t326]), (24, .agg #[.int .i64 t327, .int .i64 t328, .int .i64 t329]), (8, .pointer (some ⟨s_.2, 0, none⟩))]) (fun s_ w' => (w'.cell? ⟨gb315, 0, none⟩ = some (.int .i64 a0_0) ∧ w'.cell? ⟨gb315, 1, none⟩ = some (.int .i64 a0_1) ∧ w'.cell? ⟨gb315, 2, none⟩ = some (.slice A0_2 l0_2.length c0_2) ∧ w'.cell? ⟨gb316, 0, none⟩ = some (.int .i64 a1_0) ∧ w'.cell? ⟨gb316, 1, none⟩ = some (.int .i64 a1_1) ∧ w'.cell? ⟨gb316, 2, none⟩ = some (.int .i64 a1_2) ∧ w'.cell? ⟨gb317, 0, none⟩ = some (.int .i64 a2_0) ∧ w'.cell? ⟨gb317, 1, none⟩ = some (.int .i64 a2_1) ∧ w'.cell? ⟨gb317, 2, none⟩ = some (.int .i64 a2_2)) ∧ (Kd.R (Kd.int .i64) 2 w' w.heap.size (fun _ => True) s_.1 t321) ∧ (w'.heap[gb315]? = some (.cells #[.int .i64 a0_0, .int .i64 a0_1, .slice A0_2 l0_2.length c0_2] 24 (0, 0))) ∧ (w'.heap[gb316]? = some (.cells #[.int .i64 a1_0, .int .i64 a1_1, .int .i64 a1_2] 26 (0, 0))) ∧ (w'.heap[gb317]? = some (.cells #[.int .i64 a2_0, .int .i64 a2_1, .int .i64 a2_2] 26 (0, 0))) ∧ (w'.heap[s_.2]? = some (.cells #[.int .i64 0, .int .i64 0, .int .i64 0] 31 (0, 0))) ∧ (w.heap.size ≤ s_.2) ∧ (w.heap.size ≤ s_.2) ∧ (gb315 ≠ s_.2) ∧ (s_.2 ≠ gb315) ∧ (gb316 ≠ s_.2) ∧ (s_.2 ≠ gb316) ∧ (gb317 ≠ s_.2) ∧ (s_.2 ≠ gb317) ∧ (Below w.heap.size w w')) ?_ ?_
       rotate_left
       · intro hJ1_3_5_10
         refine join_ (σ := Value) 7 laws_FnExactComposeMotions.d7 (fun s_ => [(20, .agg #[.int .i64 t319, .int .i64 t320, s_]), (22, .agg #[.int .i64 t324, .int .i64 t325, .int .i64 t326]), (24, .agg #[.int .i64 t327, .int .i64 t328, .int .i64 t329])]) (fun s_ w' => (w'.cell? ⟨gb315, 0, none⟩ = some (.int .i64 a0_0) ∧ w'.cell? ⟨gb315, 1, none⟩ = some (.int .i64 a0_1) ∧ w'.cell? ⟨gb315, 2, none⟩ = some (.slice A0_2 l0_2.length c0_2) ∧ w'.cell? ⟨gb316, 0, none⟩ = some (.int .i64 a1_0) ∧ w'.cell? ⟨gb316, 1, none⟩ = some (.int .i64 a1_1) ∧ w'.cell? ⟨gb316, 2, none⟩ = some (.int .i64 a1_2) ∧ w'.cell? ⟨gb317, 0, none⟩ = some (.int .i64 a2_0) ∧ w'.cell? ⟨gb317, 1, none⟩ = some (.int .i64 a2_1) ∧ w'.cell? ⟨gb317, 2, none⟩ = some (.int .i64 a2_2)) ∧ (Kd.R (Kd.int .i64) 2 w' w.heap.size (fun _ => True) s_ t321) ∧ (w'.heap[gb315]? = some (.cells #[.int .i64 a0_0, .int .i64 a0_1, .slice A0_2 l0_2.length c0_2] 24 (0, 0))) ∧ (w'.heap[gb316]? = some (.cells #[.int .i64 a1_0, .int .i64 a1_1, .int .i64 a1_2] 26 (0, 0))) ∧ (w'.heap[gb317]? = some (.cells #[.int .i64 a2_0, .int .i64 a2_1, .int .i64 a2_2] 26 (0, 0))) ∧ (Below w.heap.size w w')) ?_ ?_
         rotate_left
         · intro hJ1_3_5
           refine join_ (σ := Value × Nat) 7 laws_FnExactComposeMotions.d8 (fun s_ => [(20, .agg #[.int .i64 t319, .int .i64 t320, s_.1]), (22, .agg #[.int .i64 t324, .int .i64 t325, .int .i64 t326]), (8, .pointer (some ⟨s_.2, 0, none⟩))]) (fun s_ w' => (w'.cell? ⟨gb315, 0, none⟩ = some (.int .i64 a0_0) ∧ w'.cell? ⟨gb315, 1, none⟩ = some (.int .i64 a0_1) ∧ w'.cell? ⟨gb315, 2, none⟩ = some (.slice A0_2 l0_2.length c0_2) ∧ w'.cell? ⟨gb316, 0, none⟩ = some (.int .i64 a1_0) ∧ w'.cell? ⟨gb316, 1, none⟩ = some (.int .i64 a1_1) ∧ w'.cell? ⟨gb316, 2, none⟩ = some (.int .i64 a1_2) ∧ w'.cell? ⟨gb317, 0, none⟩ = some (.int .i64 a2_0) ∧ w'.cell? ⟨gb317, 1, none⟩ = some (.int .i64 a2_1) ∧ w'.cell? ⟨gb317, 2, none⟩ = some (.int .i64 a2_2)) ∧ (Kd.R (Kd.int .i64) 2 w' w.heap.size (fun _ => True) s_.1 t321) ∧ (w'.heap[gb315]? = some (.cells #[.int .i64 a0_0, .int .i64 a0_1, .slice A0_2 l0_2.length c0_2] 24 (0, 0))) ∧ (w'.heap[gb316]? = some (.cells #[.int .i64 a1_0, .int .i64 a1_1, .int .i64 a1_2] 26 (0, 0))) ∧ (w'.heap[gb317]? = some (.cells #[.int .i64 a2_0, .int .i64 a2_1, .int .i64 a2_2] 26 (0, 0))) ∧ (w'.heap[s_.2]? = some (.cells #[.int .i64 0, .int .i64 0, .int .i64 0] 31 (0, 0))) ∧ (w.heap.size ≤ s_.2) ∧ (w.heap.size ≤ s_.2) ∧ (gb315 ≠ s_.2) ∧ (s_.2 ≠ gb315) ∧ (gb316 ≠ s_.2) ∧ (s_.2 ≠ gb316) ∧ (gb317 ≠ s_.2) ∧ (s_.2 ≠ gb317) ∧ (Below w.heap.size w w')) ?_ ?_
           rotate_left
           · intro hJ1_3_10
             refine join_ (σ := Value) 8 laws_FnExactComposeMotions.d9 (fun s_ => [(20, .agg #[.int .i64 t319, .int .i64 t320, s_]), (22, .agg #[.int .i64 t324, .int .i64 t325, .int .i64 t326])]) (fun s_ w' => (w'.cell? ⟨gb315, 0, none⟩ = some (.int .i64 a0_0) ∧ w'.cell? ⟨gb315, 1, none⟩ = some (.int .i64 a0_1) ∧ w'.cell? ⟨gb315, 2, none⟩ = some (.slice A0_2 l0_2.length c0_2) ∧ w'.cell? ⟨gb316, 0, none⟩ = some (.int .i64 a1_0) ∧ w'.cell? ⟨gb316, 1, none⟩ = some (.int .i64 a1_1) ∧ w'.cell? ⟨gb316, 2, none⟩ = some (.int .i64 a1_2) ∧ w'.cell? ⟨gb317, 0, none⟩ = some (.int .i64 a2_0) ∧ w'.cell? ⟨gb317, 1, none⟩ = some (.int .i64 a2_1) ∧ w'.cell? ⟨gb317, 2, none⟩ = some (.int .i64 a2_2)) ∧ (Kd.R (Kd.int .i64) 2 w' w.heap.size (fun _ => True) s_ t321) ∧ (w'.heap[gb315]? = some (.cells #[.int .i64 a0_0, .int .i64 a0_1, .slice A0_2 l0_2.length c0_2] 24 (0, 0))) ∧ (w'.heap[gb316]? = some (.cells #[.int .i64 a1_0, .int .i64 a1_1, .int .i64 a1_2] 26 (0, 0))) ∧ (w'.heap[gb317]? = some (.cells #[.int .i64 a2_0, .int .i64 a2_1, .int .i64 a2_2] 26 (0, 0))) ∧ (Below w.heap.size w w')) ?_ ?_
             rotate_left
             · intro hJ1_3
               refine join_ (σ := Value × Nat) 8 laws_FnExactComposeMotions.d10 (fun s_ => [(20, .agg #[.int .i64 t319, .int .i64 t320, s_.1]), (8, .pointer (some ⟨s_.2, 0, none⟩))]) (fun s_ w' => (w'.cell? ⟨gb315, 0, none⟩ = some (.int .i64 a0_0) ∧ w'.cell? ⟨gb315, 1, none⟩ = some (.int .i64 a0_1) ∧ w'.cell? ⟨gb315, 2, none⟩ = some (.slice A0_2 l0_2.length c0_2) ∧ w'.cell? ⟨gb316, 0, none⟩ = some (.int .i64 a1_0) ∧ w'.cell? ⟨gb316, 1, none⟩ = some (.int .i64 a1_1) ∧ w'.cell? ⟨gb316, 2, none⟩ = some (.int .i64 a1_2) ∧ w'.cell? ⟨gb317, 0, none⟩ = some (.int .i64 a2_0) ∧ w'.cell? ⟨gb317, 1, none⟩ = some (.int .i64 a2_1) ∧ w'.cell? ⟨gb317, 2, none⟩ = some (.int .i64 a2_2)) ∧ (Kd.R (Kd.int .i64) 2 w' w.heap.size (fun _ => True) s_.1 t321) ∧ (w'.heap[gb315]? = some (.cells #[.int .i64 a0_0, .int .i64 a0_1, .slice A0_2 l0_2.length c0_2] 24 (0, 0))) ∧ (w'.heap[gb316]? = some (.cells #[.int .i64 a1_0, .int .i64 a1_1, .int .i64 a1_2] 26 (0, 0))) ∧ (w'.heap[gb317]? = some (.cells #[.int .i64 a2_0, .int .i64 a2_1, .int .i64 a2_2] 26 (0, 0))) ∧ (w'.heap[s_.2]? = some (.cells #[.int .i64 0, .int .i64 0, .int .i64 0] 31 (0, 0))) ∧ (w.heap.size ≤ s_.2) ∧ (w.heap.size ≤ s_.2) ∧ (gb315 ≠ s_.2) ∧ (s_.2 ≠ gb315) ∧ (gb316 ≠ s_.2) ∧ (s_.2 ≠ gb316) ∧ (gb317 ≠ s_.2) ∧ (s_.2 ≠ gb317) ∧ (Below w.heap.size w w')) ?_ ?_
               rotate_left
               · intro hJ1_10
                 refine join_ (σ := Value) 9 laws_FnExactComposeMotions.d11 (fun s_ => [(20, .agg #[.int .i64 t319, .int .i64 t320, s_])]) (fun s_ w' => (w'.cell? ⟨gb315, 0, none⟩ = some (.int .i64 a0_0) ∧ w'.cell? ⟨gb315, 1, none⟩ = some (.int .i64 a0_1) ∧ w'.cell? ⟨gb315, 2, none⟩ = some (.slice A0_2 l0_2.length c0_2) ∧ w'.cell? ⟨gb316, 0, none⟩ = some (.int .i64 a1_0) ∧ w'.cell? ⟨gb316, 1, none⟩ = some (.int .i64 a1_1) ∧ w'.cell? ⟨gb316, 2, none⟩ = some (.int .i64 a1_2) ∧ w'.cell? ⟨gb317, 0, none⟩ = some (.int .i64 a2_0) ∧ w'.cell? ⟨gb317, 1, none⟩ = some (.int .i64 a2_1) ∧ w'.cell? ⟨gb317, 2, none⟩ = some (.int .i64 a2_2)) ∧ (Kd.R (Kd.int .i64) 2 w' w.heap.size (fun _ => True) s_ t321) ∧ (w'.heap[gb315]? = some (.cells #[.int .i64 a0_0, .int .i64 a0_1, .slice A0_2 l0_2.length c0_2] 24 (0, 0))) ∧ (w'.heap[gb316]? = some (.cells #[.int .i64 a1_0, .int .i64 a1_1, .int .i64 a1_2] 26 (0, 0))) ∧ (w'.heap[gb317]? = some (.cells #[.int .i64 a2_0, .int .i64 a2_1, .int .i64 a2_2] 26 (0, 0))) ∧ (Below w.heap.size w w')) ?_ ?_
                 rotate_left
                 · intro hJ1
                   refine join_ (σ := Nat) 9 laws_FnExactComposeMotions.d12 (fun s_ => [(8, .pointer (some ⟨s_, 0, none⟩))]) (fun s_ w' => (w'.cell? ⟨gb315, 0, none⟩ = some (.int .i64 a0_0) ∧ w'.cell? ⟨gb315, 1, none⟩ = some (.int .i64 a0_1) ∧ w'.cell? ⟨gb315, 2, none⟩ = some (.slice A0_2 l0_2.length c0_2) ∧ w'.cell? ⟨gb316, 0, none⟩ = some (.int .i64 a1_0) ∧ w'.cell? ⟨gb316, 1, none⟩ = some (.int .i64 a1_1) ∧ w'.cell? ⟨gb316, 2, none⟩ = some (.int .i64 a1_2) ∧ w'.cell? ⟨gb317, 0, none⟩ = some (.int .i64 a2_0) ∧ w'.cell? ⟨gb317, 1, none⟩ = some (.int .i64 a2_1) ∧ w'.cell? ⟨gb317, 2, none⟩ = some (.int .i64 a2_2)) ∧ (w'.heap[gb315]? = some (.cells #[.int .i64 a0_0, .int .i64 a0_1, .slice A0_2 l0_2.length c0_2] 24 (0, 0))) ∧ (w'.heap[gb316]? = some (.cells #[.int .i64 a1_0, .int .i64 a1_1, .int .i64 a1_2] 26 (0, 0))) ∧ (w'.heap[gb317]? = some (.cells #[.int .i64 a2_0, .int .i64 a2_1, .int .i64 a2_2] 26 (0, 0))) ∧ (w'.heap[s_]? = some (.cells #[.int .i64 0, .int .i64 0, .int .i64 0] 31 (0, 0))) ∧ (w.heap.size ≤ s_) ∧ (w.heap.size ≤ s_) ∧ (gb315 ≠ s_) ∧ (s_ ≠ gb315) ∧ (gb316 ≠ s_) ∧ (s_ ≠ gb316) ∧ (gb317 ≠ s_) ∧ (s_ ≠ gb317) ∧ (Below w.heap.size w w')) ?_ ?_
                   rotate_left
                   · intro hJ10
                     refine two_ (i := 1) (j := 10) (Ni := some 20) (Nj := some 8) laws_FnExactComposeMotions.d11 laws_FnExactComposeMotions.d12 rfl rfl rfl rfl (two_of HT_.out (by kernel_rfl)) (by decide) (by decide) (fun K hK => ?_) (fun K hK => ?_)
                     · skip
                       refine goes_ Try.func17 (by kernel_rfl) rfl #[.agg #[.int .i64 a0_0, .int .i64 a0_1, .slice A0_2 l0_2.length c0_2]] (by rfl) rfl rfl (by (try simp only [List.map_toArray, List.map_cons, List.map_nil]); first | done | rfl | (simp only [List.length_drop, List.length_take]; rfl)) ?_
                       with_reducible refine (laws_toTiling.calls k a0_0 a0_1 _ _ l0_2 t319 t320 t321 _ ?side1 ?side2 A13.out).mono ?_
                       (case side1 => exact cb_ HR0_2.out HB.out)
                       (case side2 => exact HC0_2.out)
                       rintro e w30 ⟨v322, rfl, ho0, hb⟩
                       refine ⟨_, rfl, ?_⟩
                       have n0_ := mkA (Kd.R_lower ho0 (below_size (bs3_ HB.out GE315.out GE316.out GE317.out)))
                       have n1_ := mkA (blk_below (g := gb315) (o := .cells #[.int .i64 a0_0, .int .i64 a0_1, .slice A0_2 l0_2.length c0_2] 24 (0, 0)) (bl_ BK315.out) hb)
                       have n2_ := mkA (blk_below (g := gb316) (o := .cells #[.int .i64 a1_0, .int .i64 a1_1, .int .i64 a1_2] 26 (0, 0)) (bl_ BK316.out) hb)
                       have n3_ := mkA (blk_below (g := gb317) (o := .cells #[.int .i64 a2_0, .int .i64 a2_1, .int .i64 a2_2] 26 (0, 0)) (bl_ BK317.out) hb)
                       have n4_ := mkA (below_step (bs3_ HB.out GE315.out GE316.out GE317.out) hb)
                       clear BK315
                       clear BK316
                       clear BK317
                       clear HB
                       have HO323 := n0_
                       have BK315 := n1_
                       have BK316 := n2_
                       have BK317 := n3_
                       have HB := n4_
                       clear n0_ n1_ n2_ n3_ n4_
                       (try clear hb)
                       (try clear hb2)
                       (try clear hk)
                       (try clear hi)
                       (try clear ho0)
                       refine hK.out _ _ ⟨(blk_cell BK315.out 0).trans rfl, (blk_cell BK315.out 1).trans rfl, (blk_cell BK315.out 2).trans rfl, (blk_cell BK316.out 0).trans rfl, (blk_cell BK316.out 1).trans rfl, (blk_cell BK316.out 2).trans rfl, (blk_cell BK317.out 0).trans rfl, (blk_cell BK317.out 1).trans rfl, (blk_cell BK317.out 2).trans rfl⟩ (fun hHeld => ?_)
                       clear hK K
                       refine norm_ (a' := ?_) ?_ ?_
                       rotate_left
                       · show Act.put _ (some 20) _ = _
                         simp only [Act.put, sA, sB, sC, i64_w, i32_w]
                         rfl
                       exact norm_ (by first | (simp only [putAll, Act.put, sA, sB, sC]; done) | (simp only [putAll, Act.put, sA, sB, sC]; rfl)) (hJ1 (v322) _ ⟨hHeld, (by (with_reducible repeat (first | apply Kd.R_alloc | apply Kd.R_drewN | apply Kd.R_drew)); exact HO323.out), (bl_ BK315.out), (bl_ BK316.out), (bl_ BK317.out), (bs3_ HB.out GE315.out GE316.out GE317.out)⟩)
                     · skip
                       refine box_step ?hg (N := 8) ?hd (cs := #[.int .i64 0, .int .i64 0, .int .i64 0]) (t := 31) ?hr ?_; (case hd => rfl); (case hg => rfl); (case hr => first | (go_simp; done) | (go_simp; rfl))
                       intro gb334 hg w30 hbox hb
                       have n0_ := mkA (blk_below (g := gb315) (o := .cells #[.int .i64 a0_0, .int .i64 a0_1, .slice A0_2 l0_2.length c0_2] 24 (0, 0)) (bl_ BK315.out) hb)
                       have n1_ := mkA (blk_below (g := gb316) (o := .cells #[.int .i64 a1_0, .int .i64 a1_1, .int .i64 a1_2] 26 (0, 0)) (bl_ BK316.out) hb)
                       have n2_ := mkA (blk_below (g := gb317) (o := .cells #[.int .i64 a2_0, .int .i64 a2_1, .int .i64 a2_2] 26 (0, 0)) (bl_ BK317.out) hb)
                       have n3_ := mkA (below_step (bs3_ HB.out GE315.out GE316.out GE317.out) hb)
                       have n4_ := mkA (hbox)
                       have n5_ := mkA ((by rw [hg]; exact (below_size (bs3_ HB.out GE315.out GE316.out GE317.out)) : w.heap.size ≤ gb334))
                       have n6_ := mkA ((by rw [hg]; exact (below_size (bs3_ HB.out GE315.out GE316.out GE317.out)) : w.heap.size ≤ gb334))
                       have n7_ := mkA ((by rw [hg]; exact Nat.ne_of_lt (blk_lt (g := gb315) (o := .cells #[.int .i64 a0_0, .int .i64 a0_1, .slice A0_2 l0_2.length c0_2] 24 (0, 0)) (bl_ BK315.out)) : gb315 ≠ gb334))
                       have n8_ := mkA ((by rw [hg]; exact Nat.ne_of_gt (blk_lt (g := gb315) (o := .cells #[.int .i64 a0_0, .int .i64 a0_1, .slice A0_2 l0_2.length c0_2] 24 (0, 0)) (bl_ BK315.out)) : gb334 ≠ gb315))
                       have n9_ := mkA ((by rw [hg]; exact Nat.ne_of_lt (blk_lt (g := gb316) (o := .cells #[.int .i64 a1_0, .int .i64 a1_1, .int .i64 a1_2] 26 (0, 0)) (bl_ BK316.out)) : gb316 ≠ gb334))
                       have n10_ := mkA ((by rw [hg]; exact Nat.ne_of_gt (blk_lt (g := gb316) (o := .cells #[.int .i64 a1_0, .int .i64 a1_1, .int .i64 a1_2] 26 (0, 0)) (bl_ BK316.out)) : gb334 ≠ gb316))
                       have n11_ := mkA ((by rw [hg]; exact Nat.ne_of_lt (blk_lt (g := gb317) (o := .cells #[.int .i64 a2_0, .int .i64 a2_1, .int .i64 a2_2] 26 (0, 0)) (bl_ BK317.out)) : gb317 ≠ gb334))
                       have n12_ := mkA ((by rw [hg]; exact Nat.ne_of_gt (blk_lt (g := gb317) (o := .cells #[.int .i64 a2_0, .int .i64 a2_1, .int .i64 a2_2] 26 (0, 0)) (bl_ BK317.out)) : gb334 ≠ gb317))
                       clear BK315
                       clear BK316
                       clear BK317
                       clear HB
                       have BK315 := n0_
                       have BK316 := n1_
                       have BK317 := n2_
                       have HB := n3_
                       have BK334 := n4_
                       have GW334 := n5_
                       have GE334 := n6_
                       have NB315_334 := n7_
                       have NB334_315 := n8_
                       have NB316_334 := n9_
                       have NB334_316 := n10_
                       have NB317_334 := n11_
                       have NB334_317 := n12_
                       clear n0_ n1_ n2_ n3_ n4_ n5_ n6_ n7_ n8_ n9_ n10_ n11_ n12_
                       clear hb hbox hg
                       refine hK.out _ _ ⟨(blk_cell BK315.out 0).trans rfl, (blk_cell BK315.out 1).trans rfl, (blk_cell BK315.out 2).trans rfl, (blk_cell BK316.out 0).trans rfl, (blk_cell BK316.out 1).trans rfl, (blk_cell BK316.out 2).trans rfl, (blk_cell BK317.out 0).trans rfl, (blk_cell BK317.out 1).trans rfl, (blk_cell BK317.out 2).trans rfl⟩ (fun hHeld => ?_)
                       clear hK K
                       refine norm_ (a' := ?_) ?_ ?_
                       rotate_left
                       · show Act.put _ (some 8) _ = _
                         simp only [Act.put, sA, sB, sC, i64_w, i32_w]
                         rfl
                       exact norm_ (by first | (simp only [putAll, Act.put, sA, sB, sC]; done) | (simp only [putAll, Act.put, sA, sB, sC]; rfl)) (hJ10 (gb334) _ ⟨hHeld, (bl_ BK315.out), (bl_ BK316.out), (bl_ BK317.out), (bl_ BK334.out), GW334.out, GE334.out, NB315_334.out, NB334_315.out, NB316_334.out, NB334_316.out, NB317_334.out, NB334_317.out, (bs4_ HB.out GE315.out GE316.out GE317.out GE334.out)⟩)
                   · skip
                     rintro gb334 w31 ⟨hS_, h0_, h1_, h2_, h3_, h4_, h5_, h6_, h7_, h8_, h9_, h10_, h11_, h12_⟩
                     have n0_ : Aside0 (w31.heap[gb315]? = some (.cells #[.int .i64 a0_0, .int .i64 a0_1, .slice A0_2 l0_2.length c0_2] 24 (0, 0))) := ⟨h0_⟩
                     have n1_ : Aside0 (w31.heap[gb316]? = some (.cells #[.int .i64 a1_0, .int .i64 a1_1, .int .i64 a1_2] 26 (0, 0))) := ⟨h1_⟩
                     have n2_ : Aside0 (w31.heap[gb317]? = some (.cells #[.int .i64 a2_0, .int .i64 a2_1, .int .i64 a2_2] 26 (0, 0))) := ⟨h2_⟩
                     have n3_ : Aside0 (w31.heap[gb334]? = some (.cells #[.int .i64 0, .int .i64 0, .int .i64 0] 31 (0, 0))) := ⟨h3_⟩
                     have n4_ : Aside0 (w.heap.size ≤ gb334) := ⟨h4_⟩
                     have n5_ : Aside0 (w.heap.size ≤ gb334) := ⟨h5_⟩
                     have n6_ : Aside0 (gb315 ≠ gb334) := ⟨h6_⟩
                     have n7_ : Aside0 (gb334 ≠ gb315) := ⟨h7_⟩
                     have n8_ : Aside0 (gb316 ≠ gb334) := ⟨h8_⟩
                     have n9_ : Aside0 (gb334 ≠ gb316) := ⟨h9_⟩
                     have n10_ : Aside0 (gb317 ≠ gb334) := ⟨h10_⟩
                     have n11_ : Aside0 (gb334 ≠ gb317) := ⟨h11_⟩
                     have n12_ : Aside0 (Below w.heap.size w w31) := ⟨h12_⟩
                     clear BK315
                     clear BK316
                     clear BK317
                     clear HB
                     clear h0_ h1_ h2_ h3_ h4_ h5_ h6_ h7_ h8_ h9_ h10_ h11_ h12_
                     have BK315 := n0_
                     have BK316 := n1_
                     have BK317 := n2_
                     have BK334 := n3_
                     have GW334 := n4_
                     have GE334 := n5_
                     have NB315_334 := n6_
                     have NB334_315 := n7_
                     have NB316_334 := n8_
                     have NB334_316 := n9_
                     have NB317_334 := n10_
                     have NB334_317 := n11_
                     have HB := n12_
                     clear n0_ n1_ n2_ n3_ n4_ n5_ n6_ n7_ n8_ n9_ n10_ n11_ n12_
                     have hHeld : w31.cell? ⟨gb315, 0, none⟩ = some (.int .i64 a0_0) ∧ w31.cell? ⟨gb315, 1, none⟩ = some (.int .i64 a0_1) ∧ w31.cell? ⟨gb315, 2, none⟩ = some (.slice A0_2 l0_2.length c0_2) ∧ w31.cell? ⟨gb316, 0, none⟩ = some (.int .i64 a1_0) ∧ w31.cell? ⟨gb316, 1, none⟩ = some (.int .i64 a1_1) ∧ w31.cell? ⟨gb316, 2, none⟩ = some (.int .i64 a1_2) ∧ w31.cell? ⟨gb317, 0, none⟩ = some (.int .i64 a2_0) ∧ w31.cell? ⟨gb317, 1, none⟩ = some (.int .i64 a2_1) ∧ w31.cell? ⟨gb317, 2, none⟩ = some (.int .i64 a2_2) := hS_
                     refine norm_ (a' := ?_) ?_ ?_
                     rotate_left
                     · simp only [putAll, Act.put, sA, sB, sC]
                       rfl
                     refine one_ (i := 1) (N := some 20) laws_FnExactComposeMotions.d10 rfl rfl (one_of HT_.out (by kernel_rfl)) (by decide) (fun K hK => ?_)
                     refine goes_ Try.func17 (by kernel_rfl) rfl #[.agg #[.int .i64 a0_0, .int .i64 a0_1, .slice A0_2 l0_2.length c0_2]] (by rfl) rfl rfl (by (try simp only [List.map_toArray, List.map_cons, List.map_nil]); first | done | rfl | (simp only [List.length_drop, List.length_take]; rfl)) ?_
                     with_reducible refine (laws_toTiling.calls k a0_0 a0_1 _ _ l0_2 t319 t320 t321 _ ?side1 ?side2 A13.out).mono ?_
                     (case side1 => exact cb_ HR0_2.out HB.out)
                     (case side2 => exact HC0_2.out)
                     rintro e w32 ⟨v322, rfl, ho0, hb⟩
                     refine ⟨_, rfl, ?_⟩
                     have n0_ := mkA (Kd.R_lower ho0 (below_size (bs4_ HB.out GE315.out GE316.out GE317.out GE334.out)))
                     have n1_ := mkA (blk_below (g := gb315) (o := .cells #[.int .i64 a0_0, .int .i64 a0_1, .slice A0_2 l0_2.length c0_2] 24 (0, 0)) (bl_ BK315.out) hb)
                     have n2_ := mkA (blk_below (g := gb316) (o := .cells #[.int .i64 a1_0, .int .i64 a1_1, .int .i64 a1_2] 26 (0, 0)) (bl_ BK316.out) hb)
                     have n3_ := mkA (blk_below (g := gb317) (o := .cells #[.int .i64 a2_0, .int .i64 a2_1, .int .i64 a2_2] 26 (0, 0)) (bl_ BK317.out) hb)
                     have n4_ := mkA (blk_below (g := gb334) (o := .cells #[.int .i64 0, .int .i64 0, .int .i64 0] 31 (0, 0)) (bl_ BK334.out) hb)
                     have n5_ := mkA (below_step (bs4_ HB.out GE315.out GE316.out GE317.out GE334.out) hb)
                     clear BK315
                     clear BK316
                     clear BK317
                     clear BK334
                     clear HB
                     have HO323 := n0_
                     have BK315 := n1_
                     have BK316 := n2_
                     have BK317 := n3_
                     have BK334 := n4_
                     have HB := n5_
                     clear n0_ n1_ n2_ n3_ n4_ n5_
                     (try clear hb)
                     (try clear hb2)
                     (try clear hk)
                     (try clear hi)
                     (try clear ho0)
                     refine hK.out _ _ ⟨(blk_cell BK315.out 0).trans rfl, (blk_cell BK315.out 1).trans rfl, (blk_cell BK315.out 2).trans rfl, (blk_cell BK316.out 0).trans rfl, (blk_cell BK316.out 1).trans rfl, (blk_cell BK316.out 2).trans rfl, (blk_cell BK317.out 0).trans rfl, (blk_cell BK317.out 1).trans rfl, (blk_cell BK317.out 2).trans rfl⟩ (fun hHeld => ?_)
                     clear hK K
                     refine norm_ (a' := ?_) ?_ ?_
                     rotate_left
                     · show Act.put _ (some 20) _ = _
                       simp only [Act.put, sA, sB, sC, i64_w, i32_w]
                       rfl
                     exact norm_ (by first | (simp only [putAll, Act.put, sA, sB, sC]; done) | (simp only [putAll, Act.put, sA, sB, sC]; rfl)) (hJ1_10 (v322, gb334) _ ⟨hHeld, (by (with_reducible repeat (first | apply Kd.R_alloc | apply Kd.R_drewN | apply Kd.R_drew)); exact HO323.out), (bl_ BK315.out), (bl_ BK316.out), (bl_ BK317.out), (bl_ BK334.out), GW334.out, GE334.out, NB315_334.out, NB334_315.out, NB316_334.out, NB334_316.out, NB317_334.out, NB334_317.out, (bs4_ HB.out GE315.out GE316.out GE317.out GE334.out)⟩)
                 · skip
                   rintro v322 w31 ⟨hS_, h0_, h1_, h2_, h3_, h4_⟩
                   have n0_ : Aside0 (Kd.R (Kd.int .i64) 2 w31 w.heap.size (fun _ => True) v322 t321) := ⟨h0_⟩
                   have n1_ : Aside0 (w31.heap[gb315]? = some (.cells #[.int .i64 a0_0, .int .i64 a0_1, .slice A0_2 l0_2.length c0_2] 24 (0, 0))) := ⟨h1_⟩
                   have n2_ : Aside0 (w31.heap[gb316]? = some (.cells #[.int .i64 a1_0, .int .i64 a1_1, .int .i64 a1_2] 26 (0, 0))) := ⟨h2_⟩
                   have n3_ : Aside0 (w31.heap[gb317]? = some (.cells #[.int .i64 a2_0, .int .i64 a2_1, .int .i64 a2_2] 26 (0, 0))) := ⟨h3_⟩
                   have n4_ : Aside0 (Below w.heap.size w w31) := ⟨h4_⟩
                   clear BK315
                   clear BK316
                   clear BK317
                   clear HB
                   clear h0_ h1_ h2_ h3_ h4_
                   have HO323 := n0_
                   have BK315 := n1_
                   have BK316 := n2_
                   have BK317 := n3_
                   have HB := n4_
                   clear n0_ n1_ n2_ n3_ n4_
                   have hHeld : w31.cell? ⟨gb315, 0, none⟩ = some (.int .i64 a0_0) ∧ w31.cell? ⟨gb315, 1, none⟩ = some (.int .i64 a0_1) ∧ w31.cell? ⟨gb315, 2, none⟩ = some (.slice A0_2 l0_2.length c0_2) ∧ w31.cell? ⟨gb316, 0, none⟩ = some (.int .i64 a1_0) ∧ w31.cell? ⟨gb316, 1, none⟩ = some (.int .i64 a1_1) ∧ w31.cell? ⟨gb316, 2, none⟩ = some (.int .i64 a1_2) ∧ w31.cell? ⟨gb317, 0, none⟩ = some (.int .i64 a2_0) ∧ w31.cell? ⟨gb317, 1, none⟩ = some (.int .i64 a2_1) ∧ w31.cell? ⟨gb317, 2, none⟩ = some (.int .i64 a2_2) := hS_
                   refine norm_ (a' := ?_) ?_ ?_
                   rotate_left
                   · simp only [putAll, Act.put, sA, sB, sC]
                     rfl
                   refine two_ (i := 3) (j := 10) (Ni := some 22) (Nj := some 8) laws_FnExactComposeMotions.d9 laws_FnExactComposeMotions.d10 rfl rfl rfl rfl (two_of HT_.out (by kernel_rfl)) (by decide) (by decide) (fun K hK => ?_) (fun K hK => ?_)
                   · skip
                     refine goes_ Try.func18 (by kernel_rfl) rfl #[.agg #[.int .i64 a1_0, .int .i64 a1_1, .int .i64 a1_2]] (by rfl) rfl rfl (by (try simp only [List.map_toArray, List.map_cons, List.map_nil]); first | done | rfl | (simp only [List.length_drop, List.length_take]; rfl)) ?_
                     with_reducible refine (laws_toMotion.calls a1_0 a1_1 a1_2 t324 t325 t326 _ A14.out).mono ?_
                     rintro e w32 ⟨rfl, hb⟩
                     refine ⟨_, rfl, ?_⟩
                     have n0_ := mkA (Kd.R_below (by (with_reducible repeat (first | apply Kd.R_alloc | apply Kd.R_drewN | apply Kd.R_drew)); exact HO323.out) hb)
                     have n1_ := mkA (blk_below (g := gb315) (o := .cells #[.int .i64 a0_0, .int .i64 a0_1, .slice A0_2 l0_2.length c0_2] 24 (0, 0)) (bl_ BK315.out) hb)
                     have n2_ := mkA (blk_below (g := gb316) (o := .cells #[.int .i64 a1_0, .int .i64 a1_1, .int .i64 a1_2] 26 (0, 0)) (bl_ BK316.out) hb)
                     have n3_ := mkA (blk_below (g := gb317) (o := .cells #[.int .i64 a2_0, .int .i64 a2_1, .int .i64 a2_2] 26 (0, 0)) (bl_ BK317.out) hb)
                     have n4_ := mkA (below_step (bs3_ HB.out GE315.out GE316.out GE317.out) hb)
                     clear HO323
                     clear BK315
                     clear BK316
                     clear BK317
                     clear HB
                     have HO323 := n0_
                     have BK315 := n1_
                     have BK316 := n2_
                     have BK317 := n3_
                     have HB := n4_
                     clear n0_ n1_ n2_ n3_ n4_
                     (try clear hb)
                     (try clear hb2)
                     (try clear hk)
                     (try clear hi)
                     refine hK.out _ _ ⟨(blk_cell BK315.out 0).trans rfl, (blk_cell BK315.out 1).trans rfl, (blk_cell BK315.out 2).trans rfl, (blk_cell BK316.out 0).trans rfl, (blk_cell BK316.out 1).trans rfl, (blk_cell BK316.out 2).trans rfl, (blk_cell BK317.out 0).trans rfl, (blk_cell BK317.out 1).trans rfl, (blk_cell BK317.out 2).trans rfl⟩ (fun hHeld => ?_)
                     clear hK K
                     refine norm_ (a' := ?_) ?_ ?_
                     rotate_left
                     · show Act.put _ (some 22) _ = _
                       simp only [Act.put, sA, sB, sC, i64_w, i32_w]
                       rfl
                     exact norm_ (by first | (simp only [putAll, Act.put, sA, sB, sC]; done) | (simp only [putAll, Act.put, sA, sB, sC]; rfl)) (hJ1_3 (v322) _ ⟨hHeld, (by (with_reducible repeat (first | apply Kd.R_alloc | apply Kd.R_drewN | apply Kd.R_drew)); exact HO323.out), (bl_ BK315.out), (bl_ BK316.out), (bl_ BK317.out), (bs3_ HB.out GE315.out GE316.out GE317.out)⟩)
                   · skip
                     refine box_step ?hg (N := 8) ?hd (cs := #[.int .i64 0, .int .i64 0, .int .i64 0]) (t := 31) ?hr ?_; (case hd => rfl); (case hg => rfl); (case hr => first | (go_simp; done) | (go_simp; rfl))
                     intro gb334 hg w32 hbox hb
                     have n0_ := mkA (Kd.R_below (by (with_reducible repeat (first | apply Kd.R_alloc | apply Kd.R_drewN | apply Kd.R_drew)); exact HO323.out) hb)
                     have n1_ := mkA (blk_below (g := gb315) (o := .cells #[.int .i64 a0_0, .int .i64 a0_1, .slice A0_2 l0_2.length c0_2] 24 (0, 0)) (bl_ BK315.out) hb)
                     have n2_ := mkA (blk_below (g := gb316) (o := .cells #[.int .i64 a1_0, .int .i64 a1_1, .int .i64 a1_2] 26 (0, 0)) (bl_ BK316.out) hb)
                     have n3_ := mkA (blk_below (g := gb317) (o := .cells #[.int .i64 a2_0, .int .i64 a2_1, .int .i64 a2_2] 26 (0, 0)) (bl_ BK317.out) hb)
                     have n4_ := mkA (below_step (bs3_ HB.out GE315.out GE316.out GE317.out) hb)
                     have n5_ := mkA (hbox)
                     have n6_ := mkA ((by rw [hg]; exact (below_size (bs3_ HB.out GE315.out GE316.out GE317.out)) : w.heap.size ≤ gb334))
                     have n7_ := mkA ((by rw [hg]; exact (below_size (bs3_ HB.out GE315.out GE316.out GE317.out)) : w.heap.size ≤ gb334))
                     have n8_ := mkA ((by rw [hg]; exact Nat.ne_of_lt (blk_lt (g := gb315) (o := .cells #[.int .i64 a0_0, .int .i64 a0_1, .slice A0_2 l0_2.length c0_2] 24 (0, 0)) (bl_ BK315.out)) : gb315 ≠ gb334))
                     have n9_ := mkA ((by rw [hg]; exact Nat.ne_of_gt (blk_lt (g := gb315) (o := .cells #[.int .i64 a0_0, .int .i64 a0_1, .slice A0_2 l0_2.length c0_2] 24 (0, 0)) (bl_ BK315.out)) : gb334 ≠ gb315))
                     have n10_ := mkA ((by rw [hg]; exact Nat.ne_of_lt (blk_lt (g := gb316) (o := .cells #[.int .i64 a1_0, .int .i64 a1_1, .int .i64 a1_2] 26 (0, 0)) (bl_ BK316.out)) : gb316 ≠ gb334))
                     have n11_ := mkA ((by rw [hg]; exact Nat.ne_of_gt (blk_lt (g := gb316) (o := .cells #[.int .i64 a1_0, .int .i64 a1_1, .int .i64 a1_2] 26 (0, 0)) (bl_ BK316.out)) : gb334 ≠ gb316))
                     have n12_ := mkA ((by rw [hg]; exact Nat.ne_of_lt (blk_lt (g := gb317) (o := .cells #[.int .i64 a2_0, .int .i64 a2_1, .int .i64 a2_2] 26 (0, 0)) (bl_ BK317.out)) : gb317 ≠ gb334))
                     have n13_ := mkA ((by rw [hg]; exact Nat.ne_of_gt (blk_lt (g := gb317) (o := .cells #[.int .i64 a2_0, .int .i64 a2_1, .int .i64 a2_2] 26 (0, 0)) (bl_ BK317.out)) : gb334 ≠ gb317))
                     clear HO323
                     clear BK315
                     clear BK316
                     clear BK317
                     clear HB
                     have HO323 := n0_
                     have BK315 := n1_
                     have BK316 := n2_
                     have BK317 := n3_
                     have HB := n4_
                     have BK334 := n5_
                     have GW334 := n6_
                     have GE334 := n7_
                     have NB315_334 := n8_
                     have NB334_315 := n9_
                     have NB316_334 := n10_
                     have NB334_316 := n11_
                     have NB317_334 := n12_
                     have NB334_317 := n13_
                     clear n0_ n1_ n2_ n3_ n4_ n5_ n6_ n7_ n8_ n9_ n10_ n11_ n12_ n13_
                     clear hb hbox hg
                     refine hK.out _ _ ⟨(blk_cell BK315.out 0).trans rfl, (blk_cell BK315.out 1).trans rfl, (blk_cell BK315.out 2).trans rfl, (blk_cell BK316.out 0).trans rfl, (blk_cell BK316.out 1).trans rfl, (blk_cell BK316.out 2).trans rfl, (blk_cell BK317.out 0).trans rfl, (blk_cell BK317.out 1).trans rfl, (blk_cell BK317.out 2).trans rfl⟩ (fun hHeld => ?_)
                     clear hK K
                     refine norm_ (a' := ?_) ?_ ?_
                     rotate_left
                     · show Act.put _ (some 8) _ = _
                       simp only [Act.put, sA, sB, sC, i64_w, i32_w]
                       rfl
                     exact norm_ (by first | (simp only [putAll, Act.put, sA, sB, sC]; done) | (simp only [putAll, Act.put, sA, sB, sC]; rfl)) (hJ1_10 (v322, gb334) _ ⟨hHeld, (by (with_reducible repeat (first | apply Kd.R_alloc | apply Kd.R_drewN | apply Kd.R_drew)); exact HO323.out), (bl_ BK315.out), (bl_ BK316.out), (bl_ BK317.out), (bl_ BK334.out), GW334.out, GE334.out, NB315_334.out, NB334_315.out, NB316_334.out, NB334_316.out, NB317_334.out, NB334_317.out, (bs4_ HB.out GE315.out GE316.out GE317.out GE334.out)⟩)
               · skip
                 rintro ⟨v322, gb334⟩ w32 ⟨hS_, h0_, h1_, h2_, h3_, h4_, h5_, h6_, h7_, h8_, h9_, h10_, h11_, h12_, h13_⟩
                 have n0_ : Aside0 (Kd.R (Kd.int .i64) 2 w32 w.heap.size (fun _ => True) v322 t321) := ⟨h0_⟩
                 have n1_ : Aside0 (w32.heap[gb315]? = some (.cells #[.int .i64 a0_0, .int .i64 a0_1, .slice A0_2 l0_2.length c0_2] 24 (0, 0))) := ⟨h1_⟩
                 have n2_ : Aside0 (w32.heap[gb316]? = some (.cells #[.int .i64 a1_0, .int .i64 a1_1, .int .i64 a1_2] 26 (0, 0))) := ⟨h2_⟩
                 have n3_ : Aside0 (w32.heap[gb317]? = some (.cells #[.int .i64 a2_0, .int .i64 a2_1, .int .i64 a2_2] 26 (0, 0))) := ⟨h3_⟩
                 have n4_ : Aside0 (w32.heap[gb334]? = some (.cells #[.int .i64 0, .int .i64 0, .int .i64 0] 31 (0, 0))) := ⟨h4_⟩
                 have n5_ : Aside0 (w.heap.size ≤ gb334) := ⟨h5_⟩
                 have n6_ : Aside0 (w.heap.size ≤ gb334) := ⟨h6_⟩
                 have n7_ : Aside0 (gb315 ≠ gb334) := ⟨h7_⟩
                 have n8_ : Aside0 (gb334 ≠ gb315) := ⟨h8_⟩
                 have n9_ : Aside0 (gb316 ≠ gb334) := ⟨h9_⟩
                 have n10_ : Aside0 (gb334 ≠ gb316) := ⟨h10_⟩
                 have n11_ : Aside0 (gb317 ≠ gb334) := ⟨h11_⟩
                 have n12_ : Aside0 (gb334 ≠ gb317) := ⟨h12_⟩
                 have n13_ : Aside0 (Below w.heap.size w w32) := ⟨h13_⟩
                 clear BK315
                 clear BK316
                 clear BK317
                 clear HB
                 clear h0_ h1_ h2_ h3_ h4_ h5_ h6_ h7_ h8_ h9_ h10_ h11_ h12_ h13_
                 have HO323 := n0_
                 have BK315 := n1_
                 have BK316 := n2_
                 have BK317 := n3_
                 have BK334 := n4_
                 have GW334 := n5_
                 have GE334 := n6_
                 have NB315_334 := n7_
                 have NB334_315 := n8_
                 have NB316_334 := n9_
                 have NB334_316 := n10_
                 have NB317_334 := n11_
                 have NB334_317 := n12_
                 have HB := n13_
                 clear n0_ n1_ n2_ n3_ n4_ n5_ n6_ n7_ n8_ n9_ n10_ n11_ n12_ n13_
                 have hHeld : w32.cell? ⟨gb315, 0, none⟩ = some (.int .i64 a0_0) ∧ w32.cell? ⟨gb315, 1, none⟩ = some (.int .i64 a0_1) ∧ w32.cell? ⟨gb315, 2, none⟩ = some (.slice A0_2 l0_2.length c0_2) ∧ w32.cell? ⟨gb316, 0, none⟩ = some (.int .i64 a1_0) ∧ w32.cell? ⟨gb316, 1, none⟩ = some (.int .i64 a1_1) ∧ w32.cell? ⟨gb316, 2, none⟩ = some (.int .i64 a1_2) ∧ w32.cell? ⟨gb317, 0, none⟩ = some (.int .i64 a2_0) ∧ w32.cell? ⟨gb317, 1, none⟩ = some (.int .i64 a2_1) ∧ w32.cell? ⟨gb317, 2, none⟩ = some (.int .i64 a2_2) := hS_
                 refine norm_ (a' := ?_) ?_ ?_
                 rotate_left
                 · simp only [putAll, Act.put, sA, sB, sC]
                   rfl
                 refine one_ (i := 3) (N := some 22) laws_FnExactComposeMotions.d8 rfl rfl (one_of HT_.out (by kernel_rfl)) (by decide) (fun K hK => ?_)
                 refine goes_ Try.func18 (by kernel_rfl) rfl #[.agg #[.int .i64 a1_0, .int .i64 a1_1, .int .i64 a1_2]] (by rfl) rfl rfl (by (try simp only [List.map_toArray, List.map_cons, List.map_nil]); first | done | rfl | (simp only [List.length_drop, List.length_take]; rfl)) ?_
                 with_reducible refine (laws_toMotion.calls a1_0 a1_1 a1_2 t324 t325 t326 _ A14.out).mono ?_
                 rintro e w33 ⟨rfl, hb⟩
                 refine ⟨_, rfl, ?_⟩
                 have n0_ := mkA (Kd.R_below (by (with_reducible repeat (first | apply Kd.R_alloc | apply Kd.R_drewN | apply Kd.R_drew)); exact HO323.out) hb)
                 have n1_ := mkA (blk_below (g := gb315) (o := .cells #[.int .i64 a0_0, .int .i64 a0_1, .slice A0_2 l0_2.length c0_2] 24 (0, 0)) (bl_ BK315.out) hb)
                 have n2_ := mkA (blk_below (g := gb316) (o := .cells #[.int .i64 a1_0, .int .i64 a1_1, .int .i64 a1_2] 26 (0, 0)) (bl_ BK316.out) hb)
                 have n3_ := mkA (blk_below (g := gb317) (o := .cells #[.int .i64 a2_0, .int .i64 a2_1, .int .i64 a2_2] 26 (0, 0)) (bl_ BK317.out) hb)
                 have n4_ := mkA (blk_below (g := gb334) (o := .cells #[.int .i64 0, .int .i64 0, .int .i64 0] 31 (0, 0)) (bl_ BK334.out) hb)
                 have n5_ := mkA (below_step (bs4_ HB.out GE315.out GE316.out GE317.out GE334.out) hb)
                 clear HO323
                 clear BK315
                 clear BK316
                 clear BK317
                 clear BK334
                 clear HB
                 have HO323 := n0_
                 have BK315 := n1_
                 have BK316 := n2_
                 have BK317 := n3_
                 have BK334 := n4_
                 have HB := n5_
                 clear n0_ n1_ n2_ n3_ n4_ n5_
                 (try clear hb)
                 (try clear hb2)
                 (try clear hk)
                 (try clear hi)
                 refine hK.out _ _ ⟨(blk_cell BK315.out 0).trans rfl, (blk_cell BK315.out 1).trans rfl, (blk_cell BK315.out 2).trans rfl, (blk_cell BK316.out 0).trans rfl, (blk_cell BK316.out 1).trans rfl, (blk_cell BK316.out 2).trans rfl, (blk_cell BK317.out 0).trans rfl, (blk_cell BK317.out 1).trans rfl, (blk_cell BK317.out 2).trans rfl⟩ (fun hHeld => ?_)
                 clear hK K
                 refine norm_ (a' := ?_) ?_ ?_
                 rotate_left
                 · show Act.put _ (some 22) _ = _
                   simp only [Act.put, sA, sB, sC, i64_w, i32_w]
                   rfl
                 exact norm_ (by first | (simp only [putAll, Act.put, sA, sB, sC]; done) | (simp only [putAll, Act.put, sA, sB, sC]; rfl)) (hJ1_3_10 (v322, gb334) _ ⟨hHeld, (by (with_reducible repeat (first | apply Kd.R_alloc | apply Kd.R_drewN | apply Kd.R_drew)); exact HO323.out), (bl_ BK315.out), (bl_ BK316.out), (bl_ BK317.out), (bl_ BK334.out), GW334.out, GE334.out, NB315_334.out, NB334_315.out, NB316_334.out, NB334_316.out, NB317_334.out, NB334_317.out, (bs4_ HB.out GE315.out GE316.out GE317.out GE334.out)⟩)
             · skip
               rintro v322 w32 ⟨hS_, h0_, h1_, h2_, h3_, h4_⟩
               have n0_ : Aside0 (Kd.R (Kd.int .i64) 2 w32 w.heap.size (fun _ => True) v322 t321) := ⟨h0_⟩
               have n1_ : Aside0 (w32.heap[gb315]? = some (.cells #[.int .i64 a0_0, .int .i64 a0_1, .slice A0_2 l0_2.length c0_2] 24 (0, 0))) := ⟨h1_⟩
               have n2_ : Aside0 (w32.heap[gb316]? = some (.cells #[.int .i64 a1_0, .int .i64 a1_1, .int .i64 a1_2] 26 (0, 0))) := ⟨h2_⟩
               have n3_ : Aside0 (w32.heap[gb317]? = some (.cells #[.int .i64 a2_0, .int .i64 a2_1, .int .i64 a2_2] 26 (0, 0))) := ⟨h3_⟩
               have n4_ : Aside0 (Below w.heap.size w w32) := ⟨h4_⟩
               clear BK315
               clear BK316
               clear BK317
               clear HB
               clear h0_ h1_ h2_ h3_ h4_
               have HO323 := n0_
               have BK315 := n1_
               have BK316 := n2_
               have BK317 := n3_
               have HB := n4_
               clear n0_ n1_ n2_ n3_ n4_
               have hHeld : w32.cell? ⟨gb315, 0, none⟩ = some (.int .i64 a0_0) ∧ w32.cell? ⟨gb315, 1, none⟩ = some (.int .i64 a0_1) ∧ w32.cell? ⟨gb315, 2, none⟩ = some (.slice A0_2 l0_2.length c0_2) ∧ w32.cell? ⟨gb316, 0, none⟩ = some (.int .i64 a1_0) ∧ w32.cell? ⟨gb316, 1, none⟩ = some (.int .i64 a1_1) ∧ w32.cell? ⟨gb316, 2, none⟩ = some (.int .i64 a1_2) ∧ w32.cell? ⟨gb317, 0, none⟩ = some (.int .i64 a2_0) ∧ w32.cell? ⟨gb317, 1, none⟩ = some (.int .i64 a2_1) ∧ w32.cell? ⟨gb317, 2, none⟩ = some (.int .i64 a2_2) := hS_
               refine norm_ (a' := ?_) ?_ ?_
               rotate_left
               · simp only [putAll, Act.put, sA, sB, sC]
                 rfl
               refine two_ (i := 5) (j := 10) (Ni := some 24) (Nj := some 8) laws_FnExactComposeMotions.d7 laws_FnExactComposeMotions.d8 rfl rfl rfl rfl (two_of HT_.out (by kernel_rfl)) (by decide) (by decide) (fun K hK => ?_) (fun K hK => ?_)
               · skip
                 refine goes_ Try.func18 (by kernel_rfl) rfl #[.agg #[.int .i64 a2_0, .int .i64 a2_1, .int .i64 a2_2]] (by rfl) rfl rfl (by (try simp only [List.map_toArray, List.map_cons, List.map_nil]); first | done | rfl | (simp only [List.length_drop, List.length_take]; rfl)) ?_
                 with_reducible refine (laws_toMotion.calls a2_0 a2_1 a2_2 t327 t328 t329 _ A15.out).mono ?_
                 rintro e w33 ⟨rfl, hb⟩
                 refine ⟨_, rfl, ?_⟩
                 have n0_ := mkA (Kd.R_below (by (with_reducible repeat (first | apply Kd.R_alloc | apply Kd.R_drewN | apply Kd.R_drew)); exact HO323.out) hb)
                 have n1_ := mkA (blk_below (g := gb315) (o := .cells #[.int .i64 a0_0, .int .i64 a0_1, .slice A0_2 l0_2.length c0_2] 24 (0, 0)) (bl_ BK315.out) hb)
                 have n2_ := mkA (blk_below (g := gb316) (o := .cells #[.int .i64 a1_0, .int .i64 a1_1, .int .i64 a1_2] 26 (0, 0)) (bl_ BK316.out) hb)
                 have n3_ := mkA (blk_below (g := gb317) (o := .cells #[.int .i64 a2_0, .int .i64 a2_1, .int .i64 a2_2] 26 (0, 0)) (bl_ BK317.out) hb)
                 have n4_ := mkA (below_step (bs3_ HB.out GE315.out GE316.out GE317.out) hb)
                 clear HO323
                 clear BK315
                 clear BK316
                 clear BK317
                 clear HB
                 have HO323 := n0_
                 have BK315 := n1_
                 have BK316 := n2_
                 have BK317 := n3_
                 have HB := n4_
                 clear n0_ n1_ n2_ n3_ n4_
                 (try clear hb)
                 (try clear hb2)
                 (try clear hk)
                 (try clear hi)
                 refine hK.out _ _ ⟨(blk_cell BK315.out 0).trans rfl, (blk_cell BK315.out 1).trans rfl, (blk_cell BK315.out 2).trans rfl, (blk_cell BK316.out 0).trans rfl, (blk_cell BK316.out 1).trans rfl, (blk_cell BK316.out 2).trans rfl, (blk_cell BK317.out 0).trans rfl, (blk_cell BK317.out 1).trans rfl, (blk_cell BK317.out 2).trans rfl⟩ (fun hHeld => ?_)
                 clear hK K
                 refine norm_ (a' := ?_) ?_ ?_
                 rotate_left
                 · show Act.put _ (some 24) _ = _
                   simp only [Act.put, sA, sB, sC, i64_w, i32_w]
                   rfl
                 exact norm_ (by first | (simp only [putAll, Act.put, sA, sB, sC]; done) | (simp only [putAll, Act.put, sA, sB, sC]; rfl)) (hJ1_3_5 (v322) _ ⟨hHeld, (by (with_reducible repeat (first | apply Kd.R_alloc | apply Kd.R_drewN | apply Kd.R_drew)); exact HO323.out), (bl_ BK315.out), (bl_ BK316.out), (bl_ BK317.out), (bs3_ HB.out GE315.out GE316.out GE317.out)⟩)
               · skip
                 refine box_step ?hg (N := 8) ?hd (cs := #[.int .i64 0, .int .i64 0, .int .i64 0]) (t := 31) ?hr ?_; (case hd => rfl); (case hg => rfl); (case hr => first | (go_simp; done) | (go_simp; rfl))
                 intro gb334 hg w33 hbox hb
                 have n0_ := mkA (Kd.R_below (by (with_reducible repeat (first | apply Kd.R_alloc | apply Kd.R_drewN | apply Kd.R_drew)); exact HO323.out) hb)
                 have n1_ := mkA (blk_below (g := gb315) (o := .cells #[.int .i64 a0_0, .int .i64 a0_1, .slice A0_2 l0_2.length c0_2] 24 (0, 0)) (bl_ BK315.out) hb)
                 have n2_ := mkA (blk_below (g := gb316) (o := .cells #[.int .i64 a1_0, .int .i64 a1_1, .int .i64 a1_2] 26 (0, 0)) (bl_ BK316.out) hb)
                 have n3_ := mkA (blk_below (g := gb317) (o := .cells #[.int .i64 a2_0, .int .i64 a2_1, .int .i64 a2_2] 26 (0, 0)) (bl_ BK317.out) hb)
                 have n4_ := mkA (below_step (bs3_ HB.out GE315.out GE316.out GE317.out) hb)
                 have n5_ := mkA (hbox)
                 have n6_ := mkA ((by rw [hg]; exact (below_size (bs3_ HB.out GE315.out GE316.out GE317.out)) : w.heap.size ≤ gb334))
                 have n7_ := mkA ((by rw [hg]; exact (below_size (bs3_ HB.out GE315.out GE316.out GE317.out)) : w.heap.size ≤ gb334))
                 have n8_ := mkA ((by rw [hg]; exact Nat.ne_of_lt (blk_lt (g := gb315) (o := .cells #[.int .i64 a0_0, .int .i64 a0_1, .slice A0_2 l0_2.length c0_2] 24 (0, 0)) (bl_ BK315.out)) : gb315 ≠ gb334))
                 have n9_ := mkA ((by rw [hg]; exact Nat.ne_of_gt (blk_lt (g := gb315) (o := .cells #[.int .i64 a0_0, .int .i64 a0_1, .slice A0_2 l0_2.length c0_2] 24 (0, 0)) (bl_ BK315.out)) : gb334 ≠ gb315))
                 have n10_ := mkA ((by rw [hg]; exact Nat.ne_of_lt (blk_lt (g := gb316) (o := .cells #[.int .i64 a1_0, .int .i64 a1_1, .int .i64 a1_2] 26 (0, 0)) (bl_ BK316.out)) : gb316 ≠ gb334))
                 have n11_ := mkA ((by rw [hg]; exact Nat.ne_of_gt (blk_lt (g := gb316) (o := .cells #[.int .i64 a1_0, .int .i64 a1_1, .int .i64 a1_2] 26 (0, 0)) (bl_ BK316.out)) : gb334 ≠ gb316))
                 have n12_ := mkA ((by rw [hg]; exact Nat.ne_of_lt (blk_lt (g := gb317) (o := .cells #[.int .i64 a2_0, .int .i64 a2_1, .int .i64 a2_2] 26 (0, 0)) (bl_ BK317.out)) : gb317 ≠ gb334))
                 have n13_ := mkA ((by rw [hg]; exact Nat.ne_of_gt (blk_lt (g := gb317) (o := .cells #[.int .i64 a2_0, .int .i64 a2_1, .int .i64 a2_2] 26 (0, 0)) (bl_ BK317.out)) : gb334 ≠ gb317))
                 clear HO323
                 clear BK315
                 clear BK316
                 clear BK317
                 clear HB
                 have HO323 := n0_
                 have BK315 := n1_
                 have BK316 := n2_
                 have BK317 := n3_
                 have HB := n4_
                 have BK334 := n5_
                 have GW334 := n6_
                 have GE334 := n7_
                 have NB315_334 := n8_
                 have NB334_315 := n9_
                 have NB316_334 := n10_
                 have NB334_316 := n11_
                 have NB317_334 := n12_
                 have NB334_317 := n13_
                 clear n0_ n1_ n2_ n3_ n4_ n5_ n6_ n7_ n8_ n9_ n10_ n11_ n12_ n13_
                 clear hb hbox hg
                 refine hK.out _ _ ⟨(blk_cell BK315.out 0).trans rfl, (blk_cell BK315.out 1).trans rfl, (blk_cell BK315.out 2).trans rfl, (blk_cell BK316.out 0).trans rfl, (blk_cell BK316.out 1).trans rfl, (blk_cell BK316.out 2).trans rfl, (blk_cell BK317.out 0).trans rfl, (blk_cell BK317.out 1).trans rfl, (blk_cell BK317.out 2).trans rfl⟩ (fun hHeld => ?_)
                 clear hK K
                 refine norm_ (a' := ?_) ?_ ?_
                 rotate_left
                 · show Act.put _ (some 8) _ = _
                   simp only [Act.put, sA, sB, sC, i64_w, i32_w]
                   rfl
                 exact norm_ (by first | (simp only [putAll, Act.put, sA, sB, sC]; done) | (simp only [putAll, Act.put, sA, sB, sC]; rfl)) (hJ1_3_10 (v322, gb334) _ ⟨hHeld, (by (with_reducible repeat (first | apply Kd.R_alloc | apply Kd.R_drewN | apply Kd.R_drew)); exact HO323.out), (bl_ BK315.out), (bl_ BK316.out), (bl_ BK317.out), (bl_ BK334.out), GW334.out, GE334.out, NB315_334.out, NB334_315.out, NB316_334.out, NB334_316.out, NB317_334.out, NB334_317.out, (bs4_ HB.out GE315.out GE316.out GE317.out GE334.out)⟩)
           · skip
             rintro ⟨v322, gb334⟩ w33 ⟨hS_, h0_, h1_, h2_, h3_, h4_, h5_, h6_, h7_, h8_, h9_, h10_, h11_, h12_, h13_⟩
             have n0_ : Aside0 (Kd.R (Kd.int .i64) 2 w33 w.heap.size (fun _ => True) v322 t321) := ⟨h0_⟩
             have n1_ : Aside0 (w33.heap[gb315]? = some (.cells #[.int .i64 a0_0, .int .i64 a0_1, .slice A0_2 l0_2.length c0_2] 24 (0, 0))) := ⟨h1_⟩
             have n2_ : Aside0 (w33.heap[gb316]? = some (.cells #[.int .i64 a1_0, .int .i64 a1_1, .int .i64 a1_2] 26 (0, 0))) := ⟨h2_⟩
             have n3_ : Aside0 (w33.heap[gb317]? = some (.cells #[.int .i64 a2_0, .int .i64 a2_1, .int .i64 a2_2] 26 (0, 0))) := ⟨h3_⟩
             have n4_ : Aside0 (w33.heap[gb334]? = some (.cells #[.int .i64 0, .int .i64 0, .int .i64 0] 31 (0, 0))) := ⟨h4_⟩
             have n5_ : Aside0 (w.heap.size ≤ gb334) := ⟨h5_⟩
             have n6_ : Aside0 (w.heap.size ≤ gb334) := ⟨h6_⟩
             have n7_ : Aside0 (gb315 ≠ gb334) := ⟨h7_⟩
             have n8_ : Aside0 (gb334 ≠ gb315) := ⟨h8_⟩
             have n9_ : Aside0 (gb316 ≠ gb334) := ⟨h9_⟩
             have n10_ : Aside0 (gb334 ≠ gb316) := ⟨h10_⟩
             have n11_ : Aside0 (gb317 ≠ gb334) := ⟨h11_⟩
             have n12_ : Aside0 (gb334 ≠ gb317) := ⟨h12_⟩
             have n13_ : Aside0 (Below w.heap.size w w33) := ⟨h13_⟩
             clear BK315
             clear BK316
             clear BK317
             clear HB
             clear h0_ h1_ h2_ h3_ h4_ h5_ h6_ h7_ h8_ h9_ h10_ h11_ h12_ h13_
             have HO323 := n0_
             have BK315 := n1_
             have BK316 := n2_
             have BK317 := n3_
             have BK334 := n4_
             have GW334 := n5_
             have GE334 := n6_
             have NB315_334 := n7_
             have NB334_315 := n8_
             have NB316_334 := n9_
             have NB334_316 := n10_
             have NB317_334 := n11_
             have NB334_317 := n12_
             have HB := n13_
             clear n0_ n1_ n2_ n3_ n4_ n5_ n6_ n7_ n8_ n9_ n10_ n11_ n12_ n13_
             have hHeld : w33.cell? ⟨gb315, 0, none⟩ = some (.int .i64 a0_0) ∧ w33.cell? ⟨gb315, 1, none⟩ = some (.int .i64 a0_1) ∧ w33.cell? ⟨gb315, 2, none⟩ = some (.slice A0_2 l0_2.length c0_2) ∧ w33.cell? ⟨gb316, 0, none⟩ = some (.int .i64 a1_0) ∧ w33.cell? ⟨gb316, 1, none⟩ = some (.int .i64 a1_1) ∧ w33.cell? ⟨gb316, 2, none⟩ = some (.int .i64 a1_2) ∧ w33.cell? ⟨gb317, 0, none⟩ = some (.int .i64 a2_0) ∧ w33.cell? ⟨gb317, 1, none⟩ = some (.int .i64 a2_1) ∧ w33.cell? ⟨gb317, 2, none⟩ = some (.int .i64 a2_2) := hS_
             refine norm_ (a' := ?_) ?_ ?_
             rotate_left
             · simp only [putAll, Act.put, sA, sB, sC]
               rfl
             refine one_ (i := 5) (N := some 24) laws_FnExactComposeMotions.d6 rfl rfl (one_of HT_.out (by kernel_rfl)) (by decide) (fun K hK => ?_)
             refine goes_ Try.func18 (by kernel_rfl) rfl #[.agg #[.int .i64 a2_0, .int .i64 a2_1, .int .i64 a2_2]] (by rfl) rfl rfl (by (try simp only [List.map_toArray, List.map_cons, List.map_nil]); first | done | rfl | (simp only [List.length_drop, List.length_take]; rfl)) ?_
             with_reducible refine (laws_toMotion.calls a2_0 a2_1 a2_2 t327 t328 t329 _ A15.out).mono ?_
             rintro e w34 ⟨rfl, hb⟩
             refine ⟨_, rfl, ?_⟩
             have n0_ := mkA (Kd.R_below (by (with_reducible repeat (first | apply Kd.R_alloc | apply Kd.R_drewN | apply Kd.R_drew)); exact HO323.out) hb)
             have n1_ := mkA (blk_below (g := gb315) (o := .cells #[.int .i64 a0_0, .int .i64 a0_1, .slice A0_2 l0_2.length c0_2] 24 (0, 0)) (bl_ BK315.out) hb)
             have n2_ := mkA (blk_below (g := gb316) (o := .cells #[.int .i64 a1_0, .int .i64 a1_1, .int .i64 a1_2] 26 (0, 0)) (bl_ BK316.out) hb)
             have n3_ := mkA (blk_below (g := gb317) (o := .cells #[.int .i64 a2_0, .int .i64 a2_1, .int .i64 a2_2] 26 (0, 0)) (bl_ BK317.out) hb)
             have n4_ := mkA (blk_below (g := gb334) (o := .cells #[.int .i64 0, .int .i64 0, .int .i64 0] 31 (0, 0)) (bl_ BK334.out) hb)
             have n5_ := mkA (below_step (bs4_ HB.out GE315.out GE316.out GE317.out GE334.out) hb)
             clear HO323
             clear BK315
             clear BK316
             clear BK317
             clear BK334
             clear HB
             have HO323 := n0_
             have BK315 := n1_
             have BK316 := n2_
             have BK317 := n3_
             have BK334 := n4_
             have HB := n5_
             clear n0_ n1_ n2_ n3_ n4_ n5_
             (try clear hb)
             (try clear hb2)
             (try clear hk)
             (try clear hi)
             refine hK.out _ _ ⟨(blk_cell BK315.out 0).trans rfl, (blk_cell BK315.out 1).trans rfl, (blk_cell BK315.out 2).trans rfl, (blk_cell BK316.out 0).trans rfl, (blk_cell BK316.out 1).trans rfl, (blk_cell BK316.out 2).trans rfl, (blk_cell BK317.out 0).trans rfl, (blk_cell BK317.out 1).trans rfl, (blk_cell BK317.out 2).trans rfl⟩ (fun hHeld => ?_)
             clear hK K
             refine norm_ (a' := ?_) ?_ ?_
             rotate_left
             · show Act.put _ (some 24) _ = _
               simp only [Act.put, sA, sB, sC, i64_w, i32_w]
               rfl
             exact norm_ (by first | (simp only [putAll, Act.put, sA, sB, sC]; done) | (simp only [putAll, Act.put, sA, sB, sC]; rfl)) (hJ1_3_5_10 (v322, gb334) _ ⟨hHeld, (by (with_reducible repeat (first | apply Kd.R_alloc | apply Kd.R_drewN | apply Kd.R_drew)); exact HO323.out), (bl_ BK315.out), (bl_ BK316.out), (bl_ BK317.out), (bl_ BK334.out), GW334.out, GE334.out, NB315_334.out, NB334_315.out, NB316_334.out, NB334_316.out, NB317_334.out, NB334_317.out, (bs4_ HB.out GE315.out GE316.out GE317.out GE334.out)⟩)
         · skip
           rintro v322 w33 ⟨hS_, h0_, h1_, h2_, h3_, h4_⟩
           have n0_ : Aside0 (Kd.R (Kd.int .i64) 2 w33 w.heap.size (fun _ => True) v322 t321) := ⟨h0_⟩
           have n1_ : Aside0 (w33.heap[gb315]? = some (.cells #[.int .i64 a0_0, .int .i64 a0_1, .slice A0_2 l0_2.length c0_2] 24 (0, 0))) := ⟨h1_⟩
           have n2_ : Aside0 (w33.heap[gb316]? = some (.cells #[.int .i64 a1_0, .int .i64 a1_1, .int .i64 a1_2] 26 (0, 0))) := ⟨h2_⟩
           have n3_ : Aside0 (w33.heap[gb317]? = some (.cells #[.int .i64 a2_0, .int .i64 a2_1, .int .i64 a2_2] 26 (0, 0))) := ⟨h3_⟩
           have n4_ : Aside0 (Below w.heap.size w w33) := ⟨h4_⟩
           clear BK315
           clear BK316
           clear BK317
           clear HB
           clear h0_ h1_ h2_ h3_ h4_
           have HO323 := n0_
           have BK315 := n1_
           have BK316 := n2_
           have BK317 := n3_
           have HB := n4_
           clear n0_ n1_ n2_ n3_ n4_
           have hHeld : w33.cell? ⟨gb315, 0, none⟩ = some (.int .i64 a0_0) ∧ w33.cell? ⟨gb315, 1, none⟩ = some (.int .i64 a0_1) ∧ w33.cell? ⟨gb315, 2, none⟩ = some (.slice A0_2 l0_2.length c0_2) ∧ w33.cell? ⟨gb316, 0, none⟩ = some (.int .i64 a1_0) ∧ w33.cell? ⟨gb316, 1, none⟩ = some (.int .i64 a1_1) ∧ w33.cell? ⟨gb316, 2, none⟩ = some (.int .i64 a1_2) ∧ w33.cell? ⟨gb317, 0, none⟩ = some (.int .i64 a2_0) ∧ w33.cell? ⟨gb317, 1, none⟩ = some (.int .i64 a2_1) ∧ w33.cell? ⟨gb317, 2, none⟩ = some (.int .i64 a2_2) := hS_
           obtain ⟨Ao34, co34, eo34⟩ := Kd.R_slice HO323.out
           (first | subst eo34 | (injection eo34 with f1_ f2_ f3_; have f4_ := f1_.symm; have f5_ := f3_.symm; clear f1_ f2_ f3_; subst f4_; subst f5_))
           refine norm_ (a' := ?_) ?_ ?_
           rotate_left
           · simp only [putAll, Act.put, sA, sB, sC]
             rfl
           refine two_ (i := 6) (j := 10) (Ni := some 25) (Nj := some 8) laws_FnExactComposeMotions.d13 laws_FnExactComposeMotions.d6 rfl rfl rfl rfl (two_of HT_.out (by kernel_rfl)) (by decide) (by decide) (fun K hK => ?_) (fun K hK => ?_)
           · skip
             refine goes_ Try.func37 (by kernel_rfl) rfl #[.agg #[.int .i64 t319, .int .i64 t320, .slice Ao34 t321.length co34], .agg #[.int .i64 t324, .int .i64 t325, .int .i64 t326], .agg #[.int .i64 t327, .int .i64 t328, .int .i64 t329]] (by rfl) rfl rfl (by (try simp only [List.map_toArray, List.map_cons, List.map_nil]); first | done | rfl | (simp only [List.length_drop, List.length_take]; rfl)) ?_
             with_reducible refine (spec_ComposeMotions.calls k t319 t320 _ _ t321 t324 t325 t326 t327 t328 t329 t330 t331 t332 t333 _ ?side1 ?side2 A16.out).mono ?_
             (case side1 => repeat (first | exact (Kd.R_reads' HO323.out).2.2 | (with_reducible refine Kd.C_alloc ?_ _) | (with_reducible refine Kd.C_drewN ?_ _) | (with_reducible refine Kd.C_drew ?_)))
             (case side2 => exact (Kd.R_reads' HO323.out).2.1)
             rintro e w35 ⟨rfl, hb⟩
             refine ⟨_, rfl, ?_⟩
             have n0_ := mkA (Kd.R_below (by (with_reducible repeat (first | apply Kd.R_alloc | apply Kd.R_drewN | apply Kd.R_drew)); exact HO323.out) hb)
             have n1_ := mkA (blk_below (g := gb315) (o := .cells #[.int .i64 a0_0, .int .i64 a0_1, .slice A0_2 l0_2.length c0_2] 24 (0, 0)) (bl_ BK315.out) hb)
             have n2_ := mkA (blk_below (g := gb316) (o := .cells #[.int .i64 a1_0, .int .i64 a1_1, .int .i64 a1_2] 26 (0, 0)) (bl_ BK316.out) hb)
             have n3_ := mkA (blk_below (g := gb317) (o := .cells #[.int .i64 a2_0, .int .i64 a2_1, .int .i64 a2_2] 26 (0, 0)) (bl_ BK317.out) hb)
             have n4_ := mkA (below_step (bs3_ HB.out GE315.out GE316.out GE317.out) hb)
             clear HO323
             clear BK315
             clear BK316
             clear BK317
             clear HB
             have HO323 := n0_
             have BK315 := n1_
             have BK316 := n2_
             have BK317 := n3_
             have HB := n4_
             clear n0_ n1_ n2_ n3_ n4_
             (try clear hb)
             (try clear hb2)
             (try clear hk)
             (try clear hi)
             refine hK.out _ _ ⟨(blk_cell BK315.out 0).trans rfl, (blk_cell BK315.out 1).trans rfl, (blk_cell BK315.out 2).trans rfl, (blk_cell BK316.out 0).trans rfl, (blk_cell BK316.out 1).trans rfl, (blk_cell BK316.out 2).trans rfl, (blk_cell BK317.out 0).trans rfl, (blk_cell BK317.out 1).trans rfl, (blk_cell BK317.out 2).trans rfl⟩ (fun hHeld => ?_)
             clear hK K
             refine norm_ (a' := ?_) ?_ ?_
             rotate_left
             · show Act.put _ (some 25) _ = _
               simp only [Act.put, sA, sB, sC, i64_w, i32_w]
               rfl
             refine p1_ HT_.out 7 18 laws_FnExactComposeMotions.d14 ?_
             refine p1_ HT_.out 8 26 laws_FnExactComposeMotions.d15 ?_
             refine p1_ HT_.out 9 27 laws_FnExactComposeMotions.d5 ?_
             exact norm_ (by first | (simp only [putAll, Act.put, sA, sB, sC]; done) | (simp only [putAll, Act.put, sA, sB, sC]; rfl)) (hJ1_3_5_6 (.slice Ao34 t321.length co34) _ ⟨hHeld, (by (with_reducible repeat (first | apply Kd.R_alloc | apply Kd.R_drewN | apply Kd.R_drew)); exact HO323.out), (bl_ BK315.out), (bl_ BK316.out), (bl_ BK317.out), (bs3_ HB.out GE315.out GE316.out GE317.out)⟩)
           · skip
             refine box_step ?hg (N := 8) ?hd (cs := #[.int .i64 0, .int .i64 0, .int .i64 0]) (t := 31) ?hr ?_; (case hd => rfl); (case hg => rfl); (case hr => first | (go_simp; done) | (go_simp; rfl))
             intro gb334 hg w34 hbox hb
             have n0_ := mkA (Kd.R_below (by (with_reducible repeat (first | apply Kd.R_alloc | apply Kd.R_drewN | apply Kd.R_drew)); exact HO323.out) hb)
             have n1_ := mkA (blk_below (g := gb315) (o := .cells #[.int .i64 a0_0, .int .i64 a0_1, .slice A0_2 l0_2.length c0_2] 24 (0, 0)) (bl_ BK315.out) hb)
             have n2_ := mkA (blk_below (g := gb316) (o := .cells #[.int .i64 a1_0, .int .i64 a1_1, .int .i64 a1_2] 26 (0, 0)) (bl_ BK316.out) hb)
             have n3_ := mkA (blk_below (g := gb317) (o := .cells #[.int .i64 a2_0, .int .i64 a2_1, .int .i64 a2_2] 26 (0, 0)) (bl_ BK317.out) hb)
             have n4_ := mkA (below_step (bs3_ HB.out GE315.out GE316.out GE317.out) hb)
             have n5_ := mkA (hbox)
             have n6_ := mkA ((by rw [hg]; exact (below_size (bs3_ HB.out GE315.out GE316.out GE317.out)) : w.heap.size ≤ gb334))
             have n7_ := mkA ((by rw [hg]; exact (below_size (bs3_ HB.out GE315.out GE316.out GE317.out)) : w.heap.size ≤ gb334))
             have n8_ := mkA ((by rw [hg]; exact Nat.ne_of_lt (blk_lt (g := gb315) (o := .cells #[.int .i64 a0_0, .int .i64 a0_1, .slice A0_2 l0_2.length c0_2] 24 (0, 0)) (bl_ BK315.out)) : gb315 ≠ gb334))
             have n9_ := mkA ((by rw [hg]; exact Nat.ne_of_gt (blk_lt (g := gb315) (o := .cells #[.int .i64 a0_0, .int .i64 a0_1, .slice A0_2 l0_2.length c0_2] 24 (0, 0)) (bl_ BK315.out)) : gb334 ≠ gb315))
             have n10_ := mkA ((by rw [hg]; exact Nat.ne_of_lt (blk_lt (g := gb316) (o := .cells #[.int .i64 a1_0, .int .i64 a1_1, .int .i64 a1_2] 26 (0, 0)) (bl_ BK316.out)) : gb316 ≠ gb334))
             have n11_ := mkA ((by rw [hg]; exact Nat.ne_of_gt (blk_lt (g := gb316) (o := .cells #[.int .i64 a1_0, .int .i64 a1_1, .int .i64 a1_2] 26 (0, 0)) (bl_ BK316.out)) : gb334 ≠ gb316))
             have n12_ := mkA ((by rw [hg]; exact Nat.ne_of_lt (blk_lt (g := gb317) (o := .cells #[.int .i64 a2_0, .int .i64 a2_1, .int .i64 a2_2] 26 (0, 0)) (bl_ BK317.out)) : gb317 ≠ gb334))
             have n13_ := mkA ((by rw [hg]; exact Nat.ne_of_gt (blk_lt (g := gb317) (o := .cells #[.int .i64 a2_0, .int .i64 a2_1, .int .i64 a2_2] 26 (0, 0)) (bl_ BK317.out)) : gb334 ≠ gb317))
             clear HO323
             clear BK315
             clear BK316
             clear BK317
             clear HB
             have HO323 := n0_
             have BK315 := n1_
             have BK316 := n2_
             have BK317 := n3_
             have HB := n4_
             have BK334 := n5_
             have GW334 := n6_
             have GE334 := n7_
             have NB315_334 := n8_
             have NB334_315 := n9_
             have NB316_334 := n10_
             have NB334_316 := n11_
             have NB317_334 := n12_
             have NB334_317 := n13_
             clear n0_ n1_ n2_ n3_ n4_ n5_ n6_ n7_ n8_ n9_ n10_ n11_ n12_ n13_
             clear hb hbox hg
             refine hK.out _ _ ⟨(blk_cell BK315.out 0).trans rfl, (blk_cell BK315.out 1).trans rfl, (blk_cell BK315.out 2).trans rfl, (blk_cell BK316.out 0).trans rfl, (blk_cell BK316.out 1).trans rfl, (blk_cell BK316.out 2).trans rfl, (blk_cell BK317.out 0).trans rfl, (blk_cell BK317.out 1).trans rfl, (blk_cell BK317.out 2).trans rfl⟩ (fun hHeld => ?_)
             clear hK K
             refine norm_ (a' := ?_) ?_ ?_
             rotate_left
             · show Act.put _ (some 8) _ = _
               simp only [Act.put, sA, sB, sC, i64_w, i32_w]
               rfl
             exact norm_ (by first | (simp only [putAll, Act.put, sA, sB, sC]; done) | (simp only [putAll, Act.put, sA, sB, sC]; rfl)) (hJ1_3_5_10 ((.slice Ao34 t321.length co34), gb334) _ ⟨hHeld, (by (with_reducible repeat (first | apply Kd.R_alloc | apply Kd.R_drewN | apply Kd.R_drew)); exact HO323.out), (bl_ BK315.out), (bl_ BK316.out), (bl_ BK317.out), (bl_ BK334.out), GW334.out, GE334.out, NB315_334.out, NB334_315.out, NB316_334.out, NB334_316.out, NB317_334.out, NB334_317.out, (bs4_ HB.out GE315.out GE316.out GE317.out GE334.out)⟩)
       · skip
         rintro ⟨v322, gb334⟩ w34 ⟨hS_, h0_, h1_, h2_, h3_, h4_, h5_, h6_, h7_, h8_, h9_, h10_, h11_, h12_, h13_⟩
         have n0_ : Aside0 (Kd.R (Kd.int .i64) 2 w34 w.heap.size (fun _ => True) v322 t321) := ⟨h0_⟩
         have n1_ : Aside0 (w34.heap[gb315]? = some (.cells #[.int .i64 a0_0, .int .i64 a0_1, .slice A0_2 l0_2.length c0_2] 24 (0, 0))) := ⟨h1_⟩
         have n2_ : Aside0 (w34.heap[gb316]? = some (.cells #[.int .i64 a1_0, .int .i64 a1_1, .int .i64 a1_2] 26 (0, 0))) := ⟨h2_⟩
         have n3_ : Aside0 (w34.heap[gb317]? = some (.cells #[.int .i64 a2_0, .int .i64 a2_1, .int .i64 a2_2] 26 (0, 0))) := ⟨h3_⟩
         have n4_ : Aside0 (w34.heap[gb334]? = some (.cells #[.int .i64 0, .int .i64 0, .int .i64 0] 31 (0, 0))) := ⟨h4_⟩
         have n5_ : Aside0 (w.heap.size ≤ gb334) := ⟨h5_⟩
         have n6_ : Aside0 (w.heap.size ≤ gb334) := ⟨h6_⟩
         have n7_ : Aside0 (gb315 ≠ gb334) := ⟨h7_⟩
         have n8_ : Aside0 (gb334 ≠ gb315) := ⟨h8_⟩
         have n9_ : Aside0 (gb316 ≠ gb334) := ⟨h9_⟩
         have n10_ : Aside0 (gb334 ≠ gb316) := ⟨h10_⟩
         have n11_ : Aside0 (gb317 ≠ gb334) := ⟨h11_⟩
         have n12_ : Aside0 (gb334 ≠ gb317) := ⟨h12_⟩
         have n13_ : Aside0 (Below w.heap.size w w34) := ⟨h13_⟩
         clear BK315
         clear BK316
         clear BK317
         clear HB
         clear h0_ h1_ h2_ h3_ h4_ h5_ h6_ h7_ h8_ h9_ h10_ h11_ h12_ h13_
         have HO323 := n0_
         have BK315 := n1_
         have BK316 := n2_
         have BK317 := n3_
         have BK334 := n4_
         have GW334 := n5_
         have GE334 := n6_
         have NB315_334 := n7_
         have NB334_315 := n8_
         have NB316_334 := n9_
         have NB334_316 := n10_
         have NB317_334 := n11_
         have NB334_317 := n12_
         have HB := n13_
         clear n0_ n1_ n2_ n3_ n4_ n5_ n6_ n7_ n8_ n9_ n10_ n11_ n12_ n13_
         have hHeld : w34.cell? ⟨gb315, 0, none⟩ = some (.int .i64 a0_0) ∧ w34.cell? ⟨gb315, 1, none⟩ = some (.int .i64 a0_1) ∧ w34.cell? ⟨gb315, 2, none⟩ = some (.slice A0_2 l0_2.length c0_2) ∧ w34.cell? ⟨gb316, 0, none⟩ = some (.int .i64 a1_0) ∧ w34.cell? ⟨gb316, 1, none⟩ = some (.int .i64 a1_1) ∧ w34.cell? ⟨gb316, 2, none⟩ = some (.int .i64 a1_2) ∧ w34.cell? ⟨gb317, 0, none⟩ = some (.int .i64 a2_0) ∧ w34.cell? ⟨gb317, 1, none⟩ = some (.int .i64 a2_1) ∧ w34.cell? ⟨gb317, 2, none⟩ = some (.int .i64 a2_2) := hS_
         obtain ⟨Ao35, co35, eo35⟩ := Kd.R_slice HO323.out
         (first | subst eo35 | (injection eo35 with f1_ f2_ f3_; have f4_ := f1_.symm; have f5_ := f3_.symm; clear f1_ f2_ f3_; subst f4_; subst f5_))
         refine norm_ (a' := ?_) ?_ ?_
         rotate_left
         · simp only [putAll, Act.put, sA, sB, sC]
           rfl
         refine one_ (i := 6) (N := some 25) laws_FnExactComposeMotions.d16 rfl rfl (one_of HT_.out (by kernel_rfl)) (by decide) (fun K hK => ?_)
         refine goes_ Try.func37 (by kernel_rfl) rfl #[.agg #[.int .i64 t319, .int .i64 t320, .slice Ao35 t321.length co35], .agg #[.int .i64 t324, .int .i64 t325, .int .i64 t326], .agg #[.int .i64 t327, .int .i64 t328, .int .i64 t329]] (by rfl) rfl rfl (by (try simp only [List.map_toArray, List.map_cons, List.map_nil]); first | done | rfl | (simp only [List.length_drop, List.length_take]; rfl)) ?_
         with_reducible refine (spec_ComposeMotions.calls k t319 t320 _ _ t321 t324 t325 t326 t327 t328 t329 t330 t331 t332 t333 _ ?side1 ?side2 A16.out).mono ?_
         (case side1 => repeat (first | exact (Kd.R_reads' HO323.out).2.2 | (with_reducible refine Kd.C_alloc ?_ _) | (with_reducible refine Kd.C_drewN ?_ _) | (with_reducible refine Kd.C_drew ?_)))
         (case side2 => exact (Kd.R_reads' HO323.out).2.1)
         rintro e w36 ⟨rfl, hb⟩
         refine ⟨_, rfl, ?_⟩
         have n0_ := mkA (Kd.R_below (by (with_reducible repeat (first | apply Kd.R_alloc | apply Kd.R_drewN | apply Kd.R_drew)); exact HO323.out) hb)
         have n1_ := mkA (blk_below (g := gb315) (o := .cells #[.int .i64 a0_0, .int .i64 a0_1, .slice A0_2 l0_2.length c0_2] 24 (0, 0)) (bl_ BK315.out) hb)
         have n2_ := mkA (blk_below (g := gb316) (o := .cells #[.int .i64 a1_0, .int .i64 a1_1, .int .i64 a1_2] 26 (0, 0)) (bl_ BK316.out) hb)
         have n3_ := mkA (blk_below (g := gb317) (o := .cells #[.int .i64 a2_0, .int .i64 a2_1, .int .i64 a2_2] 26 (0, 0)) (bl_ BK317.out) hb)
         have n4_ := mkA (blk_below (g := gb334) (o := .cells #[.int .i64 0, .int .i64 0, .int .i64 0] 31 (0, 0)) (bl_ BK334.out) hb)
         have n5_ := mkA (below_step (bs4_ HB.out GE315.out GE316.out GE317.out GE334.out) hb)
         clear HO323
         clear BK315
         clear BK316
         clear BK317
         clear BK334
         clear HB
         have HO323 := n0_
         have BK315 := n1_
         have BK316 := n2_
         have BK317 := n3_
         have BK334 := n4_
         have HB := n5_
         clear n0_ n1_ n2_ n3_ n4_ n5_
         (try clear hb)
         (try clear hb2)
         (try clear hk)
         (try clear hi)
         refine hK.out _ _ ⟨(blk_cell BK315.out 0).trans rfl, (blk_cell BK315.out 1).trans rfl, (blk_cell BK315.out 2).trans rfl, (blk_cell BK316.out 0).trans rfl, (blk_cell BK316.out 1).trans rfl, (blk_cell BK316.out 2).trans rfl, (blk_cell BK317.out 0).trans rfl, (blk_cell BK317.out 1).trans rfl, (blk_cell BK317.out 2).trans rfl⟩ (fun hHeld => ?_)
         clear hK K
         refine norm_ (a' := ?_) ?_ ?_
         rotate_left
         · show Act.put _ (some 25) _ = _
           simp only [Act.put, sA, sB, sC, i64_w, i32_w]
           rfl
         refine p1_ HT_.out 7 18 laws_FnExactComposeMotions.d17 ?_
         refine p1_ HT_.out 8 26 laws_FnExactComposeMotions.d18 ?_
         refine p1_ HT_.out 9 27 laws_FnExactComposeMotions.d4 ?_
         exact norm_ (by first | (simp only [putAll, Act.put, sA, sB, sC]; done) | (simp only [putAll, Act.put, sA, sB, sC]; rfl)) (hJ1_3_5_6_10 (.slice Ao35 t321.length co35, gb334) _ ⟨hHeld, (by (with_reducible repeat (first | apply Kd.R_alloc | apply Kd.R_drewN | apply Kd.R_drew)); exact HO323.out), (bl_ BK315.out), (bl_ BK316.out), (bl_ BK317.out), (bl_ BK334.out), GW334.out, GE334.out, NB315_334.out, NB334_315.out, NB316_334.out, NB334_316.out, NB317_334.out, NB334_317.out, (bs4_ HB.out GE315.out GE316.out GE317.out GE334.out)⟩)
     · skip
       rintro v322 w35 ⟨hS_, h0_, h1_, h2_, h3_, h4_⟩
       have n0_ : Aside0 (Kd.R (Kd.int .i64) 2 w35 w.heap.size (fun _ => True) v322 t321) := ⟨h0_⟩
       have n1_ : Aside0 (w35.heap[gb315]? = some (.cells #[.int .i64 a0_0, .int .i64 a0_1, .slice A0_2 l0_2.length c0_2] 24 (0, 0))) := ⟨h1_⟩
       have n2_ : Aside0 (w35.heap[gb316]? = some (.cells #[.int .i64 a1_0, .int .i64 a1_1, .int .i64 a1_2] 26 (0, 0))) := ⟨h2_⟩
       have n3_ : Aside0 (w35.heap[gb317]? = some (.cells #[.int .i64 a2_0, .int .i64 a2_1, .int .i64 a2_2] 26 (0, 0))) := ⟨h3_⟩
       have n4_ : Aside0 (Below w.heap.size w w35) := ⟨h4_⟩
       clear BK315
       clear BK316
       clear BK317
       clear HB
       clear h0_ h1_ h2_ h3_ h4_
       have HO323 := n0_
       have BK315 := n1_
       have BK316 := n2_
       have BK317 := n3_
       have HB := n4_
       clear n0_ n1_ n2_ n3_ n4_
       have hHeld : w35.cell? ⟨gb315, 0, none⟩ = some (.int .i64 a0_0) ∧ w35.cell? ⟨gb315, 1, none⟩ = some (.int .i64 a0_1) ∧ w35.cell? ⟨gb315, 2, none⟩ = some (.slice A0_2 l0_2.length c0_2) ∧ w35.cell? ⟨gb316, 0, none⟩ = some (.int .i64 a1_0) ∧ w35.cell? ⟨gb316, 1, none⟩ = some (.int .i64 a1_1) ∧ w35.cell? ⟨gb316, 2, none⟩ = some (.int .i64 a1_2) ∧ w35.cell? ⟨gb317, 0, none⟩ = some (.int .i64 a2_0) ∧ w35.cell? ⟨gb317, 1, none⟩ = some (.int .i64 a2_1) ∧ w35.cell? ⟨gb317, 2, none⟩ = some (.int .i64 a2_2) := hS_
       refine norm_ (a' := ?_) ?_ ?_
       rotate_left
       · simp only [putAll, Act.put, sA, sB, sC]
         rfl
       refine one_ (i := 10) (N := some 8) laws_FnExactComposeMotions.d4 rfl rfl (one_of HT_.out (by kernel_rfl)) (by decide) (fun K hK => ?_)
       refine box_step ?hg (N := 8) ?hd (cs := #[.int .i64 0, .int .i64 0, .int .i64 0]) (t := 31) ?hr ?_; (case hd => rfl); (case hg => rfl); (case hr => first | (go_simp; done) | (go_simp; rfl))
       intro gb334 hg w36 hbox hb
       have n0_ := mkA (Kd.R_below (by (with_reducible repeat (first | apply Kd.R_alloc | apply Kd.R_drewN | apply Kd.R_drew)); exact HO323.out) hb)
       have n1_ := mkA (blk_below (g := gb315) (o := .cells #[.int .i64 a0_0, .int .i64 a0_1, .slice A0_2 l0_2.length c0_2] 24 (0, 0)) (bl_ BK315.out) hb)
       have n2_ := mkA (blk_below (g := gb316) (o := .cells #[.int .i64 a1_0, .int .i64 a1_1, .int .i64 a1_2] 26 (0, 0)) (bl_ BK316.out) hb)
       have n3_ := mkA (blk_below (g := gb317) (o := .cells #[.int .i64 a2_0, .int .i64 a2_1, .int .i64 a2_2] 26 (0, 0)) (bl_ BK317.out) hb)
       have n4_ := mkA (below_step (bs3_ HB.out GE315.out GE316.out GE317.out) hb)
       have n5_ := mkA (hbox)
       have n6_ := mkA ((by rw [hg]; exact (below_size (bs3_ HB.out GE315.out GE316.out GE317.out)) : w.heap.size ≤ gb334))
       have n7_ := mkA ((by rw [hg]; exact (below_size (bs3_ HB.out GE315.out GE316.out GE317.out)) : w.heap.size ≤ gb334))
       have n8_ := mkA ((by rw [hg]; exact Nat.ne_of_lt (blk_lt (g := gb315) (o := .cells #[.int .i64 a0_0, .int .i64 a0_1, .slice A0_2 l0_2.length c0_2] 24 (0, 0)) (bl_ BK315.out)) : gb315 ≠ gb334))
       have n9_ := mkA ((by rw [hg]; exact Nat.ne_of_gt (blk_lt (g := gb315) (o := .cells #[.int .i64 a0_0, .int .i64 a0_1, .slice A0_2 l0_2.length c0_2] 24 (0, 0)) (bl_ BK315.out)) : gb334 ≠ gb315))
       have n10_ := mkA ((by rw [hg]; exact Nat.ne_of_lt (blk_lt (g := gb316) (o := .cells #[.int .i64 a1_0, .int .i64 a1_1, .int .i64 a1_2] 26 (0, 0)) (bl_ BK316.out)) : gb316 ≠ gb334))
       have n11_ := mkA ((by rw [hg]; exact Nat.ne_of_gt (blk_lt (g := gb316) (o := .cells #[.int .i64 a1_0, .int .i64 a1_1, .int .i64 a1_2] 26 (0, 0)) (bl_ BK316.out)) : gb334 ≠ gb316))
       have n12_ := mkA ((by rw [hg]; exact Nat.ne_of_lt (blk_lt (g := gb317) (o := .cells #[.int .i64 a2_0, .int .i64 a2_1, .int .i64 a2_2] 26 (0, 0)) (bl_ BK317.out)) : gb317 ≠ gb334))
       have n13_ := mkA ((by rw [hg]; exact Nat.ne_of_gt (blk_lt (g := gb317) (o := .cells #[.int .i64 a2_0, .int .i64 a2_1, .int .i64 a2_2] 26 (0, 0)) (bl_ BK317.out)) : gb334 ≠ gb317))
       clear HO323
       clear BK315
       clear BK316
       clear BK317
       clear HB
       have HO323 := n0_
       have BK315 := n1_
       have BK316 := n2_
       have BK317 := n3_
       have HB := n4_
       have BK334 := n5_
       have GW334 := n6_
       have GE334 := n7_
       have NB315_334 := n8_
       have NB334_315 := n9_
       have NB316_334 := n10_
       have NB334_316 := n11_
       have NB317_334 := n12_
       have NB334_317 := n13_
       clear n0_ n1_ n2_ n3_ n4_ n5_ n6_ n7_ n8_ n9_ n10_ n11_ n12_ n13_
       clear hb hbox hg
       refine hK.out _ _ ⟨(blk_cell BK315.out 0).trans rfl, (blk_cell BK315.out 1).trans rfl, (blk_cell BK315.out 2).trans rfl, (blk_cell BK316.out 0).trans rfl, (blk_cell BK316.out 1).trans rfl, (blk_cell BK316.out 2).trans rfl, (blk_cell BK317.out 0).trans rfl, (blk_cell BK317.out 1).trans rfl, (blk_cell BK317.out 2).trans rfl⟩ (fun hHeld => ?_)
       clear hK K
       refine norm_ (a' := ?_) ?_ ?_
       rotate_left
       · show Act.put _ (some 8) _ = _
         simp only [Act.put, sA, sB, sC, i64_w, i32_w]
         rfl
       exact norm_ (by first | (simp only [putAll, Act.put, sA, sB, sC]; done) | (simp only [putAll, Act.put, sA, sB, sC]; rfl)) (hJ1_3_5_6_10 (v322, gb334) _ ⟨hHeld, (by (with_reducible repeat (first | apply Kd.R_alloc | apply Kd.R_drewN | apply Kd.R_drew)); exact HO323.out), (bl_ BK315.out), (bl_ BK316.out), (bl_ BK317.out), (bl_ BK334.out), GW334.out, GE334.out, NB315_334.out, NB334_315.out, NB316_334.out, NB334_316.out, NB317_334.out, NB334_317.out, (bs4_ HB.out GE315.out GE316.out GE317.out GE334.out)⟩)
   rintro ⟨v322, gb334⟩ w36 ⟨hS_, h0_, h1_, h2_, h3_, h4_, h5_, h6_, h7_, h8_, h9_, h10_, h11_, h12_, h13_⟩
   have n0_ : Aside0 (Kd.R (Kd.int .i64) 2 w36 w.heap.size (fun _ => True) v322 t321) := ⟨h0_⟩
   have n1_ : Aside0 (w36.heap[gb315]? = some (.cells #[.int .i64 a0_0, .int .i64 a0_1, .slice A0_2 l0_2.length c0_2] 24 (0, 0))) := ⟨h1_⟩
   have n2_ : Aside0 (w36.heap[gb316]? = some (.cells #[.int .i64 a1_0, .int .i64 a1_1, .int .i64 a1_2] 26 (0, 0))) := ⟨h2_⟩
   have n3_ : Aside0 (w36.heap[gb317]? = some (.cells #[.int .i64 a2_0, .int .i64 a2_1, .int .i64 a2_2] 26 (0, 0))) := ⟨h3_⟩
   have n4_ : Aside0 (w36.heap[gb334]? = some (.cells #[.int .i64 0, .int .i64 0, .int .i64 0] 31 (0, 0))) := ⟨h4_⟩
   have n5_ : Aside0 (w.heap.size ≤ gb334) := ⟨h5_⟩
   have n6_ : Aside0 (w.heap.size ≤ gb334) := ⟨h6_⟩
   have n7_ : Aside0 (gb315 ≠ gb334) := ⟨h7_⟩
   have n8_ : Aside0 (gb334 ≠ gb315) := ⟨h8_⟩
   have n9_ : Aside0 (gb316 ≠ gb334) := ⟨h9_⟩
   have n10_ : Aside0 (gb334 ≠ gb316) := ⟨h10_⟩
   have n11_ : Aside0 (gb317 ≠ gb334) := ⟨h11_⟩
   have n12_ : Aside0 (gb334 ≠ gb317) := ⟨h12_⟩
   have n13_ : Aside0 (Below w.heap.size w w36) := ⟨h13_⟩
   clear BK315
   clear BK316
   clear BK317
   clear HB
   clear h0_ h1_ h2_ h3_ h4_ h5_ h6_ h7_ h8_ h9_ h10_ h11_ h12_ h13_
   have HO323 := n0_
   have BK315 := n1_
   have BK316 := n2_
   have BK317 := n3_
   have BK334 := n4_
   have GW334 := n5_
   have GE334 := n6_
   have NB315_334 := n7_
   have NB334_315 := n8_
   have NB316_334 := n9_
   have NB334_316 := n10_
   have NB317_334 := n11_
   have NB334_317 := n12_
   have HB := n13_
   clear n0_ n1_ n2_ n3_ n4_ n5_ n6_ n7_ n8_ n9_ n10_ n11_ n12_ n13_
   have hHeld : w36.cell? ⟨gb315, 0, none⟩ = some (.int .i64 a0_0) ∧ w36.cell? ⟨gb315, 1, none⟩ = some (.int .i64 a0_1) ∧ w36.cell? ⟨gb315, 2, none⟩ = some (.slice A0_2 l0_2.length c0_2) ∧ w36.cell? ⟨gb316, 0, none⟩ = some (.int .i64 a1_0) ∧ w36.cell? ⟨gb316, 1, none⟩ = some (.int .i64 a1_1) ∧ w36.cell? ⟨gb316, 2, none⟩ = some (.int .i64 a1_2) ∧ w36.cell? ⟨gb317, 0, none⟩ = some (.int .i64 a2_0) ∧ w36.cell? ⟨gb317, 1, none⟩ = some (.int .i64 a2_1) ∧ w36.cell? ⟨gb317, 2, none⟩ = some (.int .i64 a2_2) := hS_
   refine norm_ (a' := ?_) ?_ ?_
   rotate_left
   · simp only [putAll, Act.put, sA, sB, sC]
     rfl
   refine one_ (i := 11) (N := none) laws_FnExactComposeMotions.d19 rfl rfl (one_of HT_.out (by kernel_rfl)) (by decide) (fun K hK => ?_)
   have hs37 : w36.cell? ⟨gb334, 0, none⟩ = some (.int .i64 0) := (blk_cell BK334.out 0).trans rfl
   have hfs37 := blk_frozen BK334.out 0
   have hns37_0 := NB315_334.out
   have hns37_1 := NB316_334.out
   have hns37_2 := NB317_334.out
   have hms37_0 := NB334_315.out
   have hms37_1 := NB334_316.out
   have hms37_2 := NB334_317.out
   have hs38 : w36.cell? ⟨gb334, 1, none⟩ = some (.int .i64 0) := (blk_cell BK334.out 1).trans rfl
   have hfs38 := blk_frozen BK334.out 1
   have hns38_0 := NB315_334.out
   have hns38_1 := NB316_334.out
   have hns38_2 := NB317_334.out
   have hms38_0 := NB334_315.out
   have hms38_1 := NB334_316.out
   have hms38_2 := NB334_317.out
   have hs39 : w36.cell? ⟨gb334, 2, none⟩ = some (.int .i64 0) := (blk_cell BK334.out 2).trans rfl
   have hfs39 := blk_frozen BK334.out 2
   have hns39_0 := NB315_334.out
   have hns39_1 := NB316_334.out
   have hns39_2 := NB317_334.out
   have hms39_0 := NB334_315.out
   have hms39_1 := NB334_316.out
   have hms39_2 := NB334_317.out
   refine skip_ (w1 := ?_) (by rfl) rfl ?_ ?_
   rotate_left
   · go_simp
     rfl
   refine hK.out _ _ ⟨((cell_far (p := ⟨gb334, _, none⟩) NB315_334.out _).trans (((cell_far (p := ⟨gb334, _, none⟩) NB315_334.out _).trans (((cell_far (p := ⟨gb334, _, none⟩) NB315_334.out _).trans (hHeld.1)))))), ((cell_far (p := ⟨gb334, _, none⟩) NB315_334.out _).trans (((cell_far (p := ⟨gb334, _, none⟩) NB315_334.out _).trans (((cell_far (p := ⟨gb334, _, none⟩) NB315_334.out _).trans (hHeld.2.1)))))), ((cell_far (p := ⟨gb334, _, none⟩) NB315_334.out _).trans (((cell_far (p := ⟨gb334, _, none⟩) NB315_334.out _).trans (((cell_far (p := ⟨gb334, _, none⟩) NB315_334.out _).trans (hHeld.2.2.1)))))), ((cell_far (p := ⟨gb334, _, none⟩) NB316_334.out _).trans (((cell_far (p := ⟨gb334, _, none⟩) NB316_334.out _).trans (((cell_far (p := ⟨gb334, _, none⟩) NB316_334.out _).trans (hHeld.2.2.2.1)))))), ((cell_far (p := ⟨gb334, _, none⟩) NB316_334.out _).trans (((cell_far (p := ⟨gb334, _, none⟩) NB316_334.out _).trans (((cell_far (p := ⟨gb334, _, none⟩) NB316_334.out _).trans (hHeld.2.2.2.2.1)))))), ((cell_far (p := ⟨gb334, _, none⟩) NB316_334.out _).trans (((cell_far (p := ⟨gb334, _, none⟩) NB316_334.out _).trans (((cell_far (p := ⟨gb334, _, none⟩) NB316_334.out _).trans (hHeld.2.2.2.2.2.1)))))), ((cell_far (p := ⟨gb334, _, none⟩) NB317_334.out _).trans (((cell_far (p := ⟨gb334, _, none⟩) NB317_334.out _).trans (((cell_far (p := ⟨gb334, _, none⟩) NB317_334.out _).trans (hHeld.2.2.2.2.2.2.1)))))), ((cell_far (p := ⟨gb334, _, none⟩) NB317_334.out _).trans (((cell_far (p := ⟨gb334, _, none⟩) NB317_334.out _).trans (((cell_far (p := ⟨gb334, _, none⟩) NB317_334.out _).trans (hHeld.2.2.2.2.2.2.2.1)))))), ((cell_far (p := ⟨gb334, _, none⟩) NB317_334.out _).trans (((cell_far (p := ⟨gb334, _, none⟩) NB317_334.out _).trans (((cell_far (p := ⟨gb334, _, none⟩) NB317_334.out _).trans (hHeld.2.2.2.2.2.2.2.2))))))⟩ (fun hHeld => ?_)
   clear hK K
   refine p1_ HT_.out 12 9 laws_FnExactComposeMotions.d20 ?_
   refine done_ (done_of HT_.out (by kernel_rfl)) ?_
   have hnb40 := NB315_334.out
   have hnc40 := NB334_315.out
   have hcz41_0 : w36.cell? ⟨gb315, 0, none⟩ = some (.int .i64 a0_0) := (blk_cell BK315.out 0).trans rfl
   have hcz41_1 : w36.cell? ⟨gb315, 1, none⟩ = some (.int .i64 a0_1) := (blk_cell BK315.out 1).trans rfl
   have hcz41_2 : w36.cell? ⟨gb315, 2, none⟩ = some (.slice A0_2 l0_2.length c0_2) := (blk_cell BK315.out 2).trans rfl
   have hfz41_0 := blk_frozen BK315.out 0
   have hfz41_1 := blk_frozen BK315.out 1
   have hfz41_2 := blk_frozen BK315.out 2
   try go_wp2_with (first | ((with_reducible refine gate_callee (f := 17) rfl ?_); refine goesL_ (some 29) rfl rfl Try.func17 (by kernel_rfl) rfl #[.agg #[.int .i64 a0_0, .int .i64 a0_1, .slice A0_2 l0_2.length c0_2]] rfl (by (try simp only [List.map_toArray, List.map_cons, List.map_nil]); first | done | rfl | (simp only [List.length_drop, List.length_take]; rfl)) ?_; (with_reducible refine (laws_toTiling.calls k a0_0 a0_1 _ _ l0_2 t335 t336 t337 _ ?side1 ?side2 A17.out).mono ?_); (case side1 => exact Kd.C_below HR0_2.out (bs4_ HB.out GE315.out GE316.out GE317.out GE334.out)); (case side2 => exact HC0_2.out); rintro e w42 ⟨v338, rfl, ho0, hb⟩; refine ⟨_, rfl, ?_⟩; have n0_ := mkA (Kd.R_elder' (by (with_reducible repeat (first | apply Kd.R_alloc | apply Kd.R_drewN | apply Kd.R_drew)); exact (Kd.R_mono (Kd.R_far (p := ⟨gb334, 2, none⟩) (Kd.R_far (p := ⟨gb334, 1, none⟩) (Kd.R_far (p := ⟨gb334, 0, none⟩) (Kd.R_types HO323.out BK334.out (by decide)) (fun _ hk => hk.2) (.int .i64 t330)) (fun _ hk => hk.2) (.int .i64 t331)) (fun _ hk => hk.2) (.int .i64 t332)) (fun _ h_ => h_.1))) (Kd.R_base ho0) hb); have n1_ := mkA (Kd.R_lower (Kd.R_new' ho0 (Kd.R_lt (by (with_reducible repeat (first | apply Kd.R_alloc | apply Kd.R_drewN | apply Kd.R_drew)); exact (Kd.R_mono (Kd.R_far (p := ⟨gb334, 2, none⟩) (Kd.R_far (p := ⟨gb334, 1, none⟩) (Kd.R_far (p := ⟨gb334, 0, none⟩) (Kd.R_types HO323.out BK334.out (by decide)) (fun _ hk => hk.2) (.int .i64 t330)) (fun _ hk => hk.2) (.int .i64 t331)) (fun _ hk => hk.2) (.int .i64 t332)) (fun _ h_ => h_.1))))) (below_size (bs4_ HB.out GE315.out GE316.out GE317.out GE334.out))); have n2_ := mkA (blk_below (g := gb315) (o := .cells #[.int .i64 a0_0, .int .i64 a0_1, .slice A0_2 l0_2.length c0_2] 24 (0, 0)) (by (with_reducible repeat (first | refine blk_drewN ?_ _ | refine blk_drew ?_ | refine blk_alloc ?_ _)); refine blk_far ?_ NB315_334.out _; (with_reducible repeat (first | refine blk_drewN ?_ _ | refine blk_drew ?_ | refine blk_alloc ?_ _)); refine blk_far ?_ NB315_334.out _; (with_reducible repeat (first | refine blk_drewN ?_ _ | refine blk_drew ?_ | refine blk_alloc ?_ _)); refine blk_far ?_ NB315_334.out _; (with_reducible repeat (first | refine blk_drewN ?_ _ | refine blk_drew ?_ | refine blk_alloc ?_ _)); exact BK315.out) hb); have n3_ := mkA (blk_below (g := gb316) (o := .cells #[.int .i64 a1_0, .int .i64 a1_1, .int .i64 a1_2] 26 (0, 0)) (by (with_reducible repeat (first | refine blk_drewN ?_ _ | refine blk_drew ?_ | refine blk_alloc ?_ _)); refine blk_far ?_ NB316_334.out _; (with_reducible repeat (first | refine blk_drewN ?_ _ | refine blk_drew ?_ | refine blk_alloc ?_ _)); refine blk_far ?_ NB316_334.out _; (with_reducible repeat (first | refine blk_drewN ?_ _ | refine blk_drew ?_ | refine blk_alloc ?_ _)); refine blk_far ?_ NB316_334.out _; (with_reducible repeat (first | refine blk_drewN ?_ _ | refine blk_drew ?_ | refine blk_alloc ?_ _)); exact BK316.out) hb); have n4_ := mkA (blk_below (g := gb317) (o := .cells #[.int .i64 a2_0, .int .i64 a2_1, .int .i64 a2_2] 26 (0, 0)) (by (with_reducible repeat (first | refine blk_drewN ?_ _ | refine blk_drew ?_ | refine blk_alloc ?_ _)); refine blk_far ?_ NB317_334.out _; (with_reducible repeat (first | refine blk_drewN ?_ _ | refine blk_drew ?_ | refine blk_alloc ?_ _)); refine blk_far ?_ NB317_334.out _; (with_reducible repeat (first | refine blk_drewN ?_ _ | refine blk_drew ?_ | refine blk_alloc ?_ _)); refine blk_far ?_ NB317_334.out _; (with_reducible repeat (first | refine blk_drewN ?_ _ | refine blk_drew ?_ | refine blk_alloc ?_ _)); exact BK317.out) hb); have n5_ := mkA (blk_below (g := gb334) (o := .cells #[.int .i64 t330, .int .i64 t331, .int .i64 t332] 31 (0, 0)) (by (with_reducible repeat (first | refine blk_drewN ?_ _ | refine blk_drew ?_ | refine blk_alloc ?_ _)); refine blk_put (cs := #[.int .i64 t330, .int .i64 t331, .int .i64 0]) ?_ 2 _ rfl; (with_reducible repeat (first | refine blk_drewN ?_ _ | refine blk_drew ?_ | refine blk_alloc ?_ _)); refine blk_put (cs := #[.int .i64 t330, .int .i64 0, .int .i64 0]) ?_ 1 _ rfl; (with_reducible repeat (first | refine blk_drewN ?_ _ | refine blk_drew ?_ | refine blk_alloc ?_ _)); refine blk_put (cs := #[.int .i64 0, .int .i64 0, .int .i64 0]) ?_ 0 _ rfl; (with_reducible repeat (first | refine blk_drewN ?_ _ | refine blk_drew ?_ | refine blk_alloc ?_ _)); exact BK334.out) hb); have n6_ := mkA (below_step (bs4_ HB.out GE315.out GE316.out GE317.out GE334.out) hb); clear HO323; clear BK315; clear BK316; clear BK317; clear BK334; clear HB; have HO323 := n0_; have HO339 := n1_; have BK315 := n2_; have BK316 := n3_; have BK317 := n4_; have BK334 := n5_; have HB := n6_; clear n0_ n1_ n2_ n3_ n4_ n5_ n6_; (try clear hb); (try clear hb2); (try clear hk); (try clear hi); (try clear ho0)) | ((with_reducible refine gate_dst (N := 10) rfl ?_); refine box_event ?hg (N := 10) ?hd (cs := #[.int .i64 0, .int .i64 0, .slice none 0 0]) (t := 29) ?hr ?_; (case hd => rfl); (case hg => rfl); (case hr => first | (go_simp; done) | (go_simp; rfl)); intro gb340 hg w43 hbox hb; have n0_ := mkA (Kd.R_below (by (with_reducible repeat (first | apply Kd.R_alloc | apply Kd.R_drewN | apply Kd.R_drew)); exact HO323.out) hb); have n1_ := mkA (Kd.R_below (by (with_reducible repeat (first | apply Kd.R_alloc | apply Kd.R_drewN | apply Kd.R_drew)); exact HO339.out) hb); have n2_ := mkA (blk_below (g := gb315) (o := .cells #[.int .i64 a0_0, .int .i64 a0_1, .slice A0_2 l0_2.length c0_2] 24 (0, 0)) (bl_ BK315.out) hb); have n3_ := mkA (blk_below (g := gb316) (o := .cells #[.int .i64 a1_0, .int .i64 a1_1, .int .i64 a1_2] 26 (0, 0)) (bl_ BK316.out) hb); have n4_ := mkA (blk_below (g := gb317) (o := .cells #[.int .i64 a2_0, .int .i64 a2_1, .int .i64 a2_2] 26 (0, 0)) (bl_ BK317.out) hb); have n5_ := mkA (blk_below (g := gb334) (o := .cells #[.int .i64 t330, .int .i64 t331, .int .i64 t332] 31 (0, 0)) (bl_ BK334.out) hb); have n6_ := mkA (below_step (bs4_ HB.out GE315.out GE316.out GE317.out GE334.out) hb); have n7_ := mkA (hbox); have n8_ := mkA ((by rw [hg]; exact (below_size (bs4_ HB.out GE315.out GE316.out GE317.out GE334.out)) : w.heap.size ≤ gb340)); have n9_ := mkA ((by rw [hg]; exact (below_size (bs4_ HB.out GE315.out GE316.out GE317.out GE334.out)) : w.heap.size ≤ gb340)); have n10_ := mkA ((by rw [hg]; exact Nat.ne_of_lt (blk_lt (g := gb315) (o := .cells #[.int .i64 a0_0, .int .i64 a0_1, .slice A0_2 l0_2.length c0_2] 24 (0, 0)) (bl_ BK315.out)) : gb315 ≠ gb340)); have n11_ := mkA ((by rw [hg]; exact Nat.ne_of_gt (blk_lt (g := gb315) (o := .cells #[.int .i64 a0_0, .int .i64 a0_1, .slice A0_2 l0_2.length c0_2] 24 (0, 0)) (bl_ BK315.out)) : gb340 ≠ gb315)); have n12_ := mkA ((by rw [hg]; exact Nat.ne_of_lt (blk_lt (g := gb316) (o := .cells #[.int .i64 a1_0, .int .i64 a1_1, .int .i64 a1_2] 26 (0, 0)) (bl_ BK316.out)) : gb316 ≠ gb340)); have n13_ := mkA ((by rw [hg]; exact Nat.ne_of_gt (blk_lt (g := gb316) (o := .cells #[.int .i64 a1_0, .int .i64 a1_1, .int .i64 a1_2] 26 (0, 0)) (bl_ BK316.out)) : gb340 ≠ gb316)); have n14_ := mkA ((by rw [hg]; exact Nat.ne_of_lt (blk_lt (g := gb317) (o := .cells #[.int .i64 a2_0, .int .i64 a2_1, .int .i64 a2_2] 26 (0, 0)) (bl_ BK317.out)) : gb317 ≠ gb340)); have n15_ := mkA ((by rw [hg]; exact Nat.ne_of_gt (blk_lt (g := gb317) (o := .cells #[.int .i64 a2_0, .int .i64 a2_1, .int .i64 a2_2] 26 (0, 0)) (bl_ BK317.out)) : gb340 ≠ gb317)); have n16_ := mkA ((by rw [hg]; exact Nat.ne_of_lt (blk_lt (g := gb334) (o := .cells #[.int .i64 t330, .int .i64 t331, .int .i64 t332] 31 (0, 0)) (bl_ BK334.out)) : gb334 ≠ gb340)); have n17_ := mkA ((by rw [hg]; exact Nat.ne_of_gt (blk_lt (g := gb334) (o := .cells #[.int .i64 t330, .int .i64 t331, .int .i64 t332] 31 (0, 0)) (bl_ BK334.out)) : gb340 ≠ gb334)); clear HO323; clear HO339; clear BK315; clear BK316; clear BK317; clear BK334; clear HB; have HO323 := n0_; have HO339 := n1_; have BK315 := n2_; have BK316 := n3_; have BK317 := n4_; have BK334 := n5_; have HB := n6_; have BK340 := n7_; have GW340 := n8_; have GE340 := n9_; have NB315_340 := n10_; have NB340_315 := n11_; have NB316_340 := n12_; have NB340_316 := n13_; have NB317_340 := n14_; have NB340_317 := n15_; have NB334_340 := n16_; have NB340_334 := n17_; clear n0_ n1_ n2_ n3_ n4_ n5_ n6_ n7_ n8_ n9_ n10_ n11_ n12_ n13_ n14_ n15_ n16_ n17_; clear hb hbox hg; have hnb44 := NB340_315.out; have hnc44 := NB315_340.out; have hnb45 := NB340_316.out; have hnc45 := NB316_340.out; have hnb46 := NB340_317.out; have hnc46 := NB317_340.out; have hnb47 := NB340_334.out; have hnc47 := NB334_340.out; have hcz48_0 : w43.cell? ⟨gb340, 0, none⟩ = some (.int .i64 0) := (blk_cell BK340.out 0).trans rfl; have hcz48_1 : w43.cell? ⟨gb340, 1, none⟩ = some (.int .i64 0) := (blk_cell BK340.out 1).trans rfl; have hcz48_2 : w43.cell? ⟨gb340, 2, none⟩ = some (.slice none 0 0) := (blk_cell BK340.out 2).trans rfl; have hfz48_0 := blk_frozen BK340.out 0; have hfz48_1 := blk_frozen BK340.out 1; have hfz48_2 := blk_frozen BK340.out 2; obtain ⟨Ao49, co49, eo49⟩ := Kd.R_slice HO339.out; subst eo49))
   have n0_ : Aside0 (Kd.R (Kd.int .i64) 2 (((w43.setCell ⟨gb340, 0, none⟩ (.int .i64 t335)).setCell ⟨gb340, 1, none⟩ (.int .i64 t336)).setCell ⟨gb340, 2, none⟩ (.slice Ao49 t337.length co49)) w.heap.size (fun k_ => some k_ ≠ (.slice Ao49 t337.length co49 : Value).ownBlock) v322 t321) := ⟨by (with_reducible repeat (first | apply Kd.R_alloc | apply Kd.R_drewN | apply Kd.R_drew)); exact Kd.R_mono (Kd.R_far (p := ⟨gb340, 2, none⟩) (Kd.R_far (p := ⟨gb340, 1, none⟩) (Kd.R_far (p := ⟨gb340, 0, none⟩) (Kd.R_types HO323.out BK340.out (by decide)) (fun _ hk => hk.2) (.int .i64 t335)) (fun _ hk => hk.2) (.int .i64 t336)) (fun _ hk => hk.2) (.slice Ao49 t337.length co49)) (fun _ hk => hk.1.2)⟩
   have n1_ : Aside0 (Kd.R (Kd.int .i64) 2 (((w43.setCell ⟨gb340, 0, none⟩ (.int .i64 t335)).setCell ⟨gb340, 1, none⟩ (.int .i64 t336)).setCell ⟨gb340, 2, none⟩ (.slice Ao49 t337.length co49)) w.heap.size (fun k_ => some k_ ≠ (v322 : Value).ownBlock) (.slice Ao49 t337.length co49) t337) := ⟨by (with_reducible repeat (first | apply Kd.R_alloc | apply Kd.R_drewN | apply Kd.R_drew)); exact Kd.R_mono (Kd.R_far (p := ⟨gb340, 2, none⟩) (Kd.R_far (p := ⟨gb340, 1, none⟩) (Kd.R_far (p := ⟨gb340, 0, none⟩) (Kd.R_types HO339.out BK340.out (by decide)) (fun _ hk => hk.2) (.int .i64 t335)) (fun _ hk => hk.2) (.int .i64 t336)) (fun _ hk => hk.2) (.slice Ao49 t337.length co49)) (fun _ hk => hk.1.2)⟩
   have n2_ : Aside0 ((((w43.setCell ⟨gb340, 0, none⟩ (.int .i64 t335)).setCell ⟨gb340, 1, none⟩ (.int .i64 t336)).setCell ⟨gb340, 2, none⟩ (.slice Ao49 t337.length co49)).heap[gb315]? = some (.cells #[.int .i64 a0_0, .int .i64 a0_1, .slice A0_2 l0_2.length c0_2] 24 (0, 0))) := ⟨by (with_reducible repeat (first | refine blk_drewN ?_ _ | refine blk_drew ?_ | refine blk_alloc ?_ _)); refine blk_far ?_ NB315_340.out _; (with_reducible repeat (first | refine blk_drewN ?_ _ | refine blk_drew ?_ | refine blk_alloc ?_ _)); refine blk_far ?_ NB315_340.out _; (with_reducible repeat (first | refine blk_drewN ?_ _ | refine blk_drew ?_ | refine blk_alloc ?_ _)); refine blk_far ?_ NB315_340.out _; (with_reducible repeat (first | refine blk_drewN ?_ _ | refine blk_drew ?_ | refine blk_alloc ?_ _)); exact BK315.out⟩
   have n3_ : Aside0 ((((w43.setCell ⟨gb340, 0, none⟩ (.int .i64 t335)).setCell ⟨gb340, 1, none⟩ (.int .i64 t336)).setCell ⟨gb340, 2, none⟩ (.slice Ao49 t337.length co49)).heap[gb316]? = some (.cells #[.int .i64 a1_0, .int .i64 a1_1, .int .i64 a1_2] 26 (0, 0))) := ⟨by (with_reducible repeat (first | refine blk_drewN ?_ _ | refine blk_drew ?_ | refine blk_alloc ?_ _)); refine blk_far ?_ NB316_340.out _; (with_reducible repeat (first | refine blk_drewN ?_ _ | refine blk_drew ?_ | refine blk_alloc ?_ _)); refine blk_far ?_ NB316_340.out _; (with_reducible repeat (first | refine blk_drewN ?_ _ | refine blk_drew ?_ | refine blk_alloc ?_ _)); refine blk_far ?_ NB316_340.out _; (with_reducible repeat (first | refine blk_drewN ?_ _ | refine blk_drew ?_ | refine blk_alloc ?_ _)); exact BK316.out⟩
   have n4_ : Aside0 ((((w43.setCell ⟨gb340, 0, none⟩ (.int .i64 t335)).setCell ⟨gb340, 1, none⟩ (.int .i64 t336)).setCell ⟨gb340, 2, none⟩ (.slice Ao49 t337.length co49)).heap[gb317]? = some (.cells #[.int .i64 a2_0, .int .i64 a2_1, .int .i64 a2_2] 26 (0, 0))) := ⟨by (with_reducible repeat (first | refine blk_drewN ?_ _ | refine blk_drew ?_ | refine blk_alloc ?_ _)); refine blk_far ?_ NB317_340.out _; (with_reducible repeat (first | refine blk_drewN ?_ _ | refine blk_drew ?_ | refine blk_alloc ?_ _)); refine blk_far ?_ NB317_340.out _; (with_reducible repeat (first | refine blk_drewN ?_ _ | refine blk_drew ?_ | refine blk_alloc ?_ _)); refine blk_far ?_ NB317_340.out _; (with_reducible repeat (first | refine blk_drewN ?_ _ | refine blk_drew ?_ | refine blk_alloc ?_ _)); exact BK317.out⟩
   have n5_ : Aside0 ((((w43.setCell ⟨gb340, 0, none⟩ (.int .i64 t335)).setCell ⟨gb340, 1, none⟩ (.int .i64 t336)).setCell ⟨gb340, 2, none⟩ (.slice Ao49 t337.length co49)).heap[gb334]? = some (.cells #[.int .i64 t330, .int .i64 t331, .int .i64 t332] 31 (0, 0))) := ⟨by (with_reducible repeat (first | refine blk_drewN ?_ _ | refine blk_drew ?_ | refine blk_alloc ?_ _)); refine blk_far ?_ NB334_340.out _; (with_reducible repeat (first | refine blk_drewN ?_ _ | refine blk_drew ?_ | refine blk_alloc ?_ _)); refine blk_far ?_ NB334_340.out _; (with_reducible repeat (first | refine blk_drewN ?_ _ | refine blk_drew ?_ | refine blk_alloc ?_ _)); refine blk_far ?_ NB334_340.out _; (with_reducible repeat (first | refine blk_drewN ?_ _ | refine blk_drew ?_ | refine blk_alloc ?_ _)); exact BK334.out⟩
   have n6_ : Aside0 ((((w43.setCell ⟨gb340, 0, none⟩ (.int .i64 t335)).setCell ⟨gb340, 1, none⟩ (.int .i64 t336)).setCell ⟨gb340, 2, none⟩ (.slice Ao49 t337.length co49)).heap[gb340]? = some (.cells #[.int .i64 t335, .int .i64 t336, .slice Ao49 t337.length co49] 29 (0, 0))) := ⟨by (with_reducible repeat (first | refine blk_drewN ?_ _ | refine blk_drew ?_ | refine blk_alloc ?_ _)); refine blk_put (cs := #[.int .i64 t335, .int .i64 t336, .slice none 0 0]) ?_ 2 _ rfl; (with_reducible repeat (first | refine blk_drewN ?_ _ | refine blk_drew ?_ | refine blk_alloc ?_ _)); refine blk_put (cs := #[.int .i64 t335, .int .i64 0, .slice none 0 0]) ?_ 1 _ rfl; (with_reducible repeat (first | refine blk_drewN ?_ _ | refine blk_drew ?_ | refine blk_alloc ?_ _)); refine blk_put (cs := #[.int .i64 0, .int .i64 0, .slice none 0 0]) ?_ 0 _ rfl; (with_reducible repeat (first | refine blk_drewN ?_ _ | refine blk_drew ?_ | refine blk_alloc ?_ _)); exact BK340.out⟩
   have n7_ : Aside0 (Below w.heap.size w (((w43.setCell ⟨gb340, 0, none⟩ (.int .i64 t335)).setCell ⟨gb340, 1, none⟩ (.int .i64 t336)).setCell ⟨gb340, 2, none⟩ (.slice Ao49 t337.length co49))) := ⟨by repeat (first | (with_reducible first | exact HB.out | apply below_alloc | apply pw_below_drewN | apply below_drew1 | refine below_set ?_ GE315.out | refine below_set ?_ GE316.out | refine below_set ?_ GE317.out | refine below_set ?_ GE334.out | refine below_set ?_ GE340.out) | exact HB.out)⟩
   (try clear HO323)
   (try clear HO339)
   (try clear BK315)
   (try clear BK316)
   (try clear BK317)
   (try clear BK334)
   (try clear BK340)
   (try clear HB)
   generalize (((w43.setCell ⟨gb340, 0, none⟩ (.int .i64 t335)).setCell ⟨gb340, 1, none⟩ (.int .i64 t336)).setCell ⟨gb340, 2, none⟩ (.slice Ao49 t337.length co49)) = w50 at n0_ n1_ n2_ n3_ n4_ n5_ n6_ n7_ ⊢
   have HO323 := n0_
   have HO339 := n1_
   have BK315 := n2_
   have BK316 := n3_
   have BK317 := n4_
   have BK334 := n5_
   have BK340 := n6_
   have HB := n7_
   clear n0_ n1_ n2_ n3_ n4_ n5_ n6_ n7_
   have n0_ := mkA (Kd.R_drew HO323.out)
   have n1_ := mkA (Kd.R_drew HO339.out)
   have n2_ := mkA (blk_drew BK315.out)
   have n3_ := mkA (blk_drew BK316.out)
   have n4_ := mkA (blk_drew BK317.out)
   have n5_ := mkA (blk_drew BK334.out)
   have n6_ := mkA (blk_drew BK340.out)
   have n7_ := mkA (below_drew1 HB.out)
   clear HO323
   clear HO339
   clear BK315
   clear BK316
   clear BK317
   clear BK334
   clear BK340
   clear HB
   have HO323 := n0_
   have HO339 := n1_
   have BK315 := n2_
   have BK316 := n3_
   have BK317 := n4_
   have BK334 := n5_
   have BK340 := n6_
   have HB := n7_
   clear n0_ n1_ n2_ n3_ n4_ n5_ n6_ n7_
   refine start_ (n := 12) (S := fun w' => w'.cell? ⟨gb340, 0, none⟩ = some (.int .i64 t335) ∧ w'.cell? ⟨gb340, 1, none⟩ = some (.int .i64 t336) ∧ w'.cell? ⟨gb340, 2, none⟩ = some (.slice Ao49 t337.length co49) ∧ w'.cell? ⟨gb316, 0, none⟩ = some (.int .i64 a1_0) ∧ w'.cell? ⟨gb316, 1, none⟩ = some (.int .i64 a1_1) ∧ w'.cell? ⟨gb316, 2, none⟩ = some (.int .i64 a1_2) ∧ w'.cell? ⟨gb317, 0, none⟩ = some (.int .i64 a2_0) ∧ w'.cell? ⟨gb317, 1, none⟩ = some (.int .i64 a2_1) ∧ w'.cell? ⟨gb317, 2, none⟩ = some (.int .i64 a2_2)) (ds := []) laws_FnExactComposeMotions.d21 (by kernel_rfl) rfl rfl ⟨(blk_cell BK340.out 0).trans rfl, (blk_cell BK340.out 1).trans rfl, (blk_cell BK340.out 2).trans rfl, (blk_cell BK316.out 0).trans rfl, (blk_cell BK316.out 1).trans rfl, (blk_cell BK316.out 2).trans rfl, (blk_cell BK317.out 0).trans rfl, (blk_cell BK317.out 1).trans rfl, (blk_cell BK317.out 2).trans rfl⟩ (fun hHeld => ?_); refine with_tabW laws_FnExactComposeMotions.tab7 laws_FnExactComposeMotions.bits7 (fun HT_ HW_ => ?_)
   generalize w50.drew = w51 at HO323 HO339 BK315 BK316 BK317 BK334 BK340 HB hHeld ⊢
   refine take_ (i := 0) (N := some 31) (v := ?_) (a' := ?_) laws_FnExactComposeMotions.d22 rfl rfl (take_ofW HT_.out HW_.out (by kernel_rfl)) (fun _ _ _ h => h) (Or.inl ⟨by rfl, ?_⟩) hHeld ?_ ?_
   rotate_left
   · rintro w' ⟨s0, s1, s2, s3, s4, s5, s6, s7, s8⟩
     go_simp
     with_reducible rfl
   rotate_left
   · simp only [Act.put, sA, sB, sC, i64_w, i32_w]
     rfl
   refine take_ (i := 1) (N := some 32) (v := ?_) (a' := ?_) laws_FnExactComposeMotions.d23 rfl rfl (take_ofW HT_.out HW_.out (by kernel_rfl)) (fun _ _ _ h => h) (Or.inl ⟨by rfl, ?_⟩) hHeld ?_ ?_
   rotate_left
   · rintro w' ⟨s0, s1, s2, s3, s4, s5, s6, s7, s8⟩
     go_simp
     with_reducible rfl
   rotate_left
   · simp only [Act.put, sA, sB, sC, i64_w, i32_w]
     rfl
   refine take_ (i := 3) (N := some 34) (v := ?_) (a' := ?_) laws_FnExactComposeMotions.d24 rfl rfl (take_ofW HT_.out HW_.out (by kernel_rfl)) (fun _ _ _ h => h) (Or.inl ⟨by rfl, ?_⟩) hHeld ?_ ?_
   rotate_left
   · rintro w' ⟨s0, s1, s2, s3, s4, s5, s6, s7, s8⟩
     go_simp
     with_reducible rfl
   rotate_left
   · simp only [Act.put, sA, sB, sC, i64_w, i32_w]
     rfl
   refine join_ (σ := Nat) 2 laws_FnExactComposeMotions.d25 (fun s_ => [(33, .agg #[.int .i64 t341, .int .i64 t342, .int .i64 t343]), (35, .agg #[.int .i64 t344, .int .i64 t345, .int .i64 t346]), (36, .tuple #[.agg #[.int .i64 t347, .int .i64 t348, .int .i64 t349], .int .i64 t350]), (11, .pointer (some ⟨s_, 0, none⟩)), (30, .tuple #[.agg #[.int .i64 t347, .int .i64 t348, .int .i64 t349], .int .i64 t350]), (37, .agg #[.int .i64 t347, .int .i64 t348, .int .i64 t349]), (38, .int .i64 t350)]) (fun s_ w' => (w'.cell? ⟨gb340, 0, none⟩ = some (.int .i64 t335) ∧ w'.cell? ⟨gb340, 1, none⟩ = some (.int .i64 t336) ∧ w'.cell? ⟨gb340, 2, none⟩ = some (.slice Ao49 t337.length co49) ∧ w'.cell? ⟨gb316, 0, none⟩ = some (.int .i64 a1_0) ∧ w'.cell? ⟨gb316, 1, none⟩ = some (.int .i64 a1_1) ∧ w'.cell? ⟨gb316, 2, none⟩ = some (.int .i64 a1_2) ∧ w'.cell? ⟨gb317, 0, none⟩ = some (.int .i64 a2_0) ∧ w'.cell? ⟨gb317, 1, none⟩ = some (.int .i64 a2_1) ∧ w'.cell? ⟨gb317, 2, none⟩ = some (.int .i64 a2_2)) ∧ (Kd.R (Kd.int .i64) 2 w' w.heap.size (fun k_ => some k_ ≠ (.slice Ao49 t337.length co49 : Value).ownBlock) v322 t321) ∧ (Kd.R (Kd.int .i64) 2 w' w.heap.size (fun k_ => some k_ ≠ (v322 : Value).ownBlock) (.slice Ao49 t337.length co49) t337) ∧ (w'.heap[gb315]? = some (.cells #[.int .i64 a0_0, .int .i64 a0_1, .slice A0_2 l0_2.length c0_2] 24 (0, 0))) ∧ (w'.heap[gb316]? = some (.cells #[.int .i64 a1_0, .int .i64 a1_1, .int .i64 a1_2] 26 (0, 0))) ∧ (w'.heap[gb317]? = some (.cells #[.int .i64 a2_0, .int .i64 a2_1, .int .i64 a2_2] 26 (0, 0))) ∧ (w'.heap[gb334]? = some (.cells #[.int .i64 t330, .int .i64 t331, .int .i64 t332] 31 (0, 0))) ∧ (w'.heap[gb340]? = some (.cells #[.int .i64 t335, .int .i64 t336, .slice Ao49 t337.length co49] 29 (0, 0))) ∧ (w'.heap[s_]? = some (.cells #[.int .i64 0, .int .i64 0, .int .i64 0] 31 (0, 0))) ∧ (w.heap.size ≤ s_) ∧ (w.heap.size ≤ s_) ∧ (gb315 ≠ s_) ∧ (s_ ≠ gb315) ∧ (gb316 ≠ s_) ∧ (s_ ≠ gb316) ∧ (gb317 ≠ s_) ∧ (s_ ≠ gb317) ∧ (gb334 ≠ s_) ∧ (s_ ≠ gb334) ∧ (gb340 ≠ s_) ∧ (s_ ≠ gb340) ∧ (Below w.heap.size w w')) ?_ ?_
   rotate_left
   · intro hCont
     refine two_ (i := 2) (j := 9) (Ni := some 33) (Nj := some 11) laws_FnExactComposeMotions.d26 laws_FnExactComposeMotions.d27 rfl rfl rfl rfl (two_of HT_.out (by kernel_rfl)) (by decide) (by decide) (fun K hK => ?_) (fun K hK => ?_)
     · skip
       refine goes_ Try.func18 (by kernel_rfl) rfl #[.agg #[.int .i64 a1_0, .int .i64 a1_1, .int .i64 a1_2]] (by rfl) rfl rfl (by (try simp only [List.map_toArray, List.map_cons, List.map_nil]); first | done | rfl | (simp only [List.length_drop, List.length_take]; rfl)) ?_
       with_reducible refine (laws_toMotion.calls a1_0 a1_1 a1_2 t341 t342 t343 _ A18.out).mono ?_
       rintro e w52 ⟨rfl, hb⟩
       refine ⟨_, rfl, ?_⟩
       have n0_ := mkA (Kd.R_below (by (with_reducible repeat (first | apply Kd.R_alloc | apply Kd.R_drewN | apply Kd.R_drew)); exact HO323.out) hb)
       have n1_ := mkA (Kd.R_below (by (with_reducible repeat (first | apply Kd.R_alloc | apply Kd.R_drewN | apply Kd.R_drew)); exact HO339.out) hb)
       have n2_ := mkA (blk_below (g := gb315) (o := .cells #[.int .i64 a0_0, .int .i64 a0_1, .slice A0_2 l0_2.length c0_2] 24 (0, 0)) (bl_ BK315.out) hb)
       have n3_ := mkA (blk_below (g := gb316) (o := .cells #[.int .i64 a1_0, .int .i64 a1_1, .int .i64 a1_2] 26 (0, 0)) (bl_ BK316.out) hb)
       have n4_ := mkA (blk_below (g := gb317) (o := .cells #[.int .i64 a2_0, .int .i64 a2_1, .int .i64 a2_2] 26 (0, 0)) (bl_ BK317.out) hb)
       have n5_ := mkA (blk_below (g := gb334) (o := .cells #[.int .i64 t330, .int .i64 t331, .int .i64 t332] 31 (0, 0)) (bl_ BK334.out) hb)
       have n6_ := mkA (blk_below (g := gb340) (o := .cells #[.int .i64 t335, .int .i64 t336, .slice Ao49 t337.length co49] 29 (0, 0)) (bl_ BK340.out) hb)
       have n7_ := mkA (below_step (bs5_ HB.out GE315.out GE316.out GE317.out GE334.out GE340.out) hb)
       clear HO323
       clear HO339
       clear BK315
       clear BK316
       clear BK317
       clear BK334
       clear BK340
       clear HB
       have HO323 := n0_
       have HO339 := n1_
       have BK315 := n2_
       have BK316 := n3_
       have BK317 := n4_
       have BK334 := n5_
       have BK340 := n6_
       have HB := n7_
       clear n0_ n1_ n2_ n3_ n4_ n5_ n6_ n7_
       (try clear hb)
       (try clear hb2)
       (try clear hk)
       (try clear hi)
       refine hK.out _ _ ⟨(blk_cell BK340.out 0).trans rfl, (blk_cell BK340.out 1).trans rfl, (blk_cell BK340.out 2).trans rfl, (blk_cell BK316.out 0).trans rfl, (blk_cell BK316.out 1).trans rfl, (blk_cell BK316.out 2).trans rfl, (blk_cell BK317.out 0).trans rfl, (blk_cell BK317.out 1).trans rfl, (blk_cell BK317.out 2).trans rfl⟩ (fun hHeld => ?_)
       clear hK K
       refine norm_ (a' := ?_) ?_ ?_
       rotate_left
       · show Act.put _ (some 33) _ = _
         simp only [Act.put, sA, sB, sC, i64_w, i32_w]
         rfl
       refine two_ (i := 4) (j := 9) (Ni := some 35) (Nj := some 11) laws_FnExactComposeMotions.d28 laws_FnExactComposeMotions.d29 rfl rfl rfl rfl (two_of HT_.out (by kernel_rfl)) (by decide) (by decide) (fun K hK => ?_) (fun K hK => ?_)
       · skip
         refine goes_ Try.func18 (by kernel_rfl) rfl #[.agg #[.int .i64 a2_0, .int .i64 a2_1, .int .i64 a2_2]] (by rfl) rfl rfl (by (try simp only [List.map_toArray, List.map_cons, List.map_nil]); first | done | rfl | (simp only [List.length_drop, List.length_take]; rfl)) ?_
         with_reducible refine (laws_toMotion.calls a2_0 a2_1 a2_2 t344 t345 t346 _ A19.out).mono ?_
         rintro e w53 ⟨rfl, hb⟩
         refine ⟨_, rfl, ?_⟩
         have n0_ := mkA (Kd.R_below (by (with_reducible repeat (first | apply Kd.R_alloc | apply Kd.R_drewN | apply Kd.R_drew)); exact HO323.out) hb)
         have n1_ := mkA (Kd.R_below (by (with_reducible repeat (first | apply Kd.R_alloc | apply Kd.R_drewN | apply Kd.R_drew)); exact HO339.out) hb)
         have n2_ := mkA (blk_below (g := gb315) (o := .cells #[.int .i64 a0_0, .int .i64 a0_1, .slice A0_2 l0_2.length c0_2] 24 (0, 0)) (bl_ BK315.out) hb)
         have n3_ := mkA (blk_below (g := gb316) (o := .cells #[.int .i64 a1_0, .int .i64 a1_1, .int .i64 a1_2] 26 (0, 0)) (bl_ BK316.out) hb)
         have n4_ := mkA (blk_below (g := gb317) (o := .cells #[.int .i64 a2_0, .int .i64 a2_1, .int .i64 a2_2] 26 (0, 0)) (bl_ BK317.out) hb)
         have n5_ := mkA (blk_below (g := gb334) (o := .cells #[.int .i64 t330, .int .i64 t331, .int .i64 t332] 31 (0, 0)) (bl_ BK334.out) hb)
         have n6_ := mkA (blk_below (g := gb340) (o := .cells #[.int .i64 t335, .int .i64 t336, .slice Ao49 t337.length co49] 29 (0, 0)) (bl_ BK340.out) hb)
         have n7_ := mkA (below_step (bs5_ HB.out GE315.out GE316.out GE317.out GE334.out GE340.out) hb)
         clear HO323
         clear HO339
         clear BK315
         clear BK316
         clear BK317
         clear BK334
         clear BK340
         clear HB
         have HO323 := n0_
         have HO339 := n1_
         have BK315 := n2_
         have BK316 := n3_
         have BK317 := n4_
         have BK334 := n5_
         have BK340 := n6_
         have HB := n7_
         clear n0_ n1_ n2_ n3_ n4_ n5_ n6_ n7_
         (try clear hb)
         (try clear hb2)
         (try clear hk)
         (try clear hi)
         refine hK.out _ _ ⟨(blk_cell BK340.out 0).trans rfl, (blk_cell BK340.out 1).trans rfl, (blk_cell BK340.out 2).trans rfl, (blk_cell BK316.out 0).trans rfl, (blk_cell BK316.out 1).trans rfl, (blk_cell BK316.out 2).trans rfl, (blk_cell BK317.out 0).trans rfl, (blk_cell BK317.out 1).trans rfl, (blk_cell BK317.out 2).trans rfl⟩ (fun hHeld => ?_)
         clear hK K
         refine norm_ (a' := ?_) ?_ ?_
         rotate_left
         · show Act.put _ (some 35) _ = _
           simp only [Act.put, sA, sB, sC, i64_w, i32_w]
           rfl
         refine two_ (i := 5) (j := 9) (Ni := some 36) (Nj := some 11) laws_FnExactComposeMotions.d30 laws_FnExactComposeMotions.d31 rfl rfl rfl rfl (two_of HT_.out (by kernel_rfl)) (by decide) (by decide) (fun K hK => ?_) (fun K hK => ?_)
         · skip
           refine goes_ Try.func38 (by kernel_rfl) rfl #[.agg #[.int .i64 t335, .int .i64 t336, .slice Ao49 t337.length co49], .agg #[.int .i64 t341, .int .i64 t342, .int .i64 t343], .agg #[.int .i64 t344, .int .i64 t345, .int .i64 t346]] (by rfl) rfl rfl (by (try simp only [List.map_toArray, List.map_cons, List.map_nil]); first | done | rfl | (simp only [List.length_drop, List.length_take]; rfl)) ?_
           with_reducible refine (impl_ComposeMotions.calls k t335 t336 _ _ t337 t341 t342 t343 t344 t345 t346 t347 t348 t349 t350 _ ?side1 ?side2 A20.out).mono ?_
           (case side1 => repeat (first | exact (Kd.R_reads' HO339.out).2.2 | (with_reducible refine Kd.C_alloc ?_ _) | (with_reducible refine Kd.C_drewN ?_ _) | (with_reducible refine Kd.C_drew ?_)))
           (case side2 => exact (Kd.R_reads' HO339.out).2.1)
           rintro e w54 ⟨rfl, hb⟩
           refine ⟨_, rfl, ?_⟩
           have n0_ := mkA (Kd.R_below (by (with_reducible repeat (first | apply Kd.R_alloc | apply Kd.R_drewN | apply Kd.R_drew)); exact HO323.out) hb)
           have n1_ := mkA (Kd.R_below (by (with_reducible repeat (first | apply Kd.R_alloc | apply Kd.R_drewN | apply Kd.R_drew)); exact HO339.out) hb)
           have n2_ := mkA (blk_below (g := gb315) (o := .cells #[.int .i64 a0_0, .int .i64 a0_1, .slice A0_2 l0_2.length c0_2] 24 (0, 0)) (bl_ BK315.out) hb)
           have n3_ := mkA (blk_below (g := gb316) (o := .cells #[.int .i64 a1_0, .int .i64 a1_1, .int .i64 a1_2] 26 (0, 0)) (bl_ BK316.out) hb)
           have n4_ := mkA (blk_below (g := gb317) (o := .cells #[.int .i64 a2_0, .int .i64 a2_1, .int .i64 a2_2] 26 (0, 0)) (bl_ BK317.out) hb)
           have n5_ := mkA (blk_below (g := gb334) (o := .cells #[.int .i64 t330, .int .i64 t331, .int .i64 t332] 31 (0, 0)) (bl_ BK334.out) hb)
           have n6_ := mkA (blk_below (g := gb340) (o := .cells #[.int .i64 t335, .int .i64 t336, .slice Ao49 t337.length co49] 29 (0, 0)) (bl_ BK340.out) hb)
           have n7_ := mkA (below_step (bs5_ HB.out GE315.out GE316.out GE317.out GE334.out GE340.out) hb)
           clear HO323
           clear HO339
           clear BK315
           clear BK316
           clear BK317
           clear BK334
           clear BK340
           clear HB
           have HO323 := n0_
           have HO339 := n1_
           have BK315 := n2_
           have BK316 := n3_
           have BK317 := n4_
           have BK334 := n5_
           have BK340 := n6_
           have HB := n7_
           clear n0_ n1_ n2_ n3_ n4_ n5_ n6_ n7_
           (try clear hb)
           (try clear hb2)
           (try clear hk)
           (try clear hi)
           refine hK.out _ _ ⟨(blk_cell BK340.out 0).trans rfl, (blk_cell BK340.out 1).trans rfl, (blk_cell BK340.out 2).trans rfl, (blk_cell BK316.out 0).trans rfl, (blk_cell BK316.out 1).trans rfl, (blk_cell BK316.out 2).trans rfl, (blk_cell BK317.out 0).trans rfl, (blk_cell BK317.out 1).trans rfl, (blk_cell BK317.out 2).trans rfl⟩ (fun hHeld => ?_)
           clear hK K
           refine norm_ (a' := ?_) ?_ ?_
           rotate_left
           · show Act.put _ (some 36) _ = _
             simp only [Act.put, sA, sB, sC, i64_w, i32_w]
             rfl
           refine p1_ HT_.out 6 30 laws_FnExactComposeMotions.d32 ?_
           refine p1_ HT_.out 7 37 laws_FnExactComposeMotions.d33 ?_
           refine p1_ HT_.out 8 38 laws_FnExactComposeMotions.d34 ?_
           refine one_ (i := 9) (N := some 11) laws_FnExactComposeMotions.d25 rfl rfl (one_of HT_.out (by kernel_rfl)) (by decide) (fun K hK => ?_)
           refine box_step ?hg (N := 11) ?hd (cs := #[.int .i64 0, .int .i64 0, .int .i64 0]) (t := 31) ?hr ?_; (case hd => rfl); (case hg => rfl); (case hr => first | (go_simp; done) | (go_simp; rfl))
           intro gb351 hg w55 hbox hb
           have n0_ := mkA (Kd.R_below (by (with_reducible repeat (first | apply Kd.R_alloc | apply Kd.R_drewN | apply Kd.R_drew)); exact HO323.out) hb)
           have n1_ := mkA (Kd.R_below (by (with_reducible repeat (first | apply Kd.R_alloc | apply Kd.R_drewN | apply Kd.R_drew)); exact HO339.out) hb)
           have n2_ := mkA (blk_below (g := gb315) (o := .cells #[.int .i64 a0_0, .int .i64 a0_1, .slice A0_2 l0_2.length c0_2] 24 (0, 0)) (bl_ BK315.out) hb)
           have n3_ := mkA (blk_below (g := gb316) (o := .cells #[.int .i64 a1_0, .int .i64 a1_1, .int .i64 a1_2] 26 (0, 0)) (bl_ BK316.out) hb)
           have n4_ := mkA (blk_below (g := gb317) (o := .cells #[.int .i64 a2_0, .int .i64 a2_1, .int .i64 a2_2] 26 (0, 0)) (bl_ BK317.out) hb)
           have n5_ := mkA (blk_below (g := gb334) (o := .cells #[.int .i64 t330, .int .i64 t331, .int .i64 t332] 31 (0, 0)) (bl_ BK334.out) hb)
           have n6_ := mkA (blk_below (g := gb340) (o := .cells #[.int .i64 t335, .int .i64 t336, .slice Ao49 t337.length co49] 29 (0, 0)) (bl_ BK340.out) hb)
           have n7_ := mkA (below_step (bs5_ HB.out GE315.out GE316.out GE317.out GE334.out GE340.out) hb)
           have n8_ := mkA (hbox)
           have n9_ := mkA ((by rw [hg]; exact (below_size (bs5_ HB.out GE315.out GE316.out GE317.out GE334.out GE340.out)) : w.heap.size ≤ gb351))
           have n10_ := mkA ((by rw [hg]; exact (below_size (bs5_ HB.out GE315.out GE316.out GE317.out GE334.out GE340.out)) : w.heap.size ≤ gb351))
           have n11_ := mkA ((by rw [hg]; exact Nat.ne_of_lt (blk_lt (g := gb315) (o := .cells #[.int .i64 a0_0, .int .i64 a0_1, .slice A0_2 l0_2.length c0_2] 24 (0, 0)) (bl_ BK315.out)) : gb315 ≠ gb351))
           have n12_ := mkA ((by rw [hg]; exact Nat.ne_of_gt (blk_lt (g := gb315) (o := .cells #[.int .i64 a0_0, .int .i64 a0_1, .slice A0_2 l0_2.length c0_2] 24 (0, 0)) (bl_ BK315.out)) : gb351 ≠ gb315))
           have n13_ := mkA ((by rw [hg]; exact Nat.ne_of_lt (blk_lt (g := gb316) (o := .cells #[.int .i64 a1_0, .int .i64 a1_1, .int .i64 a1_2] 26 (0, 0)) (bl_ BK316.out)) : gb316 ≠ gb351))
           have n14_ := mkA ((by rw [hg]; exact Nat.ne_of_gt (blk_lt (g := gb316) (o := .cells #[.int .i64 a1_0, .int .i64 a1_1, .int .i64 a1_2] 26 (0, 0)) (bl_ BK316.out)) : gb351 ≠ gb316))
           have n15_ := mkA ((by rw [hg]; exact Nat.ne_of_lt (blk_lt (g := gb317) (o := .cells #[.int .i64 a2_0, .int .i64 a2_1, .int .i64 a2_2] 26 (0, 0)) (bl_ BK317.out)) : gb317 ≠ gb351))
           have n16_ := mkA ((by rw [hg]; exact Nat.ne_of_gt (blk_lt (g := gb317) (o := .cells #[.int .i64 a2_0, .int .i64 a2_1, .int .i64 a2_2] 26 (0, 0)) (bl_ BK317.out)) : gb351 ≠ gb317))
           have n17_ := mkA ((by rw [hg]; exact Nat.ne_of_lt (blk_lt (g := gb334) (o := .cells #[.int .i64 t330, .int .i64 t331, .int .i64 t332] 31 (0, 0)) (bl_ BK334.out)) : gb334 ≠ gb351))
           have n18_ := mkA ((by rw [hg]; exact Nat.ne_of_gt (blk_lt (g := gb334) (o := .cells #[.int .i64 t330, .int .i64 t331, .int .i64 t332] 31 (0, 0)) (bl_ BK334.out)) : gb351 ≠ gb334))
           have n19_ := mkA ((by rw [hg]; exact Nat.ne_of_lt (blk_lt (g := gb340) (o := .cells #[.int .i64 t335, .int .i64 t336, .slice Ao49 t337.length co49] 29 (0, 0)) (bl_ BK340.out)) : gb340 ≠ gb351))
           have n20_ := mkA ((by rw [hg]; exact Nat.ne_of_gt (blk_lt (g := gb340) (o := .cells #[.int .i64 t335, .int .i64 t336, .slice Ao49 t337.length co49] 29 (0, 0)) (bl_ BK340.out)) : gb351 ≠ gb340))
           clear HO323
           clear HO339
           clear BK315
           clear BK316
           clear BK317
           clear BK334
           clear BK340
           clear HB
           have HO323 := n0_
           have HO339 := n1_
           have BK315 := n2_
           have BK316 := n3_
           have BK317 := n4_
           have BK334 := n5_
           have BK340 := n6_
           have HB := n7_
           have BK351 := n8_
           have GW351 := n9_
           have GE351 := n10_
           have NB315_351 := n11_
           have NB351_315 := n12_
           have NB316_351 := n13_
           have NB351_316 := n14_
           have NB317_351 := n15_
           have NB351_317 := n16_
           have NB334_351 := n17_
           have NB351_334 := n18_
           have NB340_351 := n19_
           have NB351_340 := n20_
           clear n0_ n1_ n2_ n3_ n4_ n5_ n6_ n7_ n8_ n9_ n10_ n11_ n12_ n13_ n14_ n15_ n16_ n17_ n18_ n19_ n20_
           clear hb hbox hg
           refine hK.out _ _ ⟨(blk_cell BK340.out 0).trans rfl, (blk_cell BK340.out 1).trans rfl, (blk_cell BK340.out 2).trans rfl, (blk_cell BK316.out 0).trans rfl, (blk_cell BK316.out 1).trans rfl, (blk_cell BK316.out 2).trans rfl, (blk_cell BK317.out 0).trans rfl, (blk_cell BK317.out 1).trans rfl, (blk_cell BK317.out 2).trans rfl⟩ (fun hHeld => ?_)
           clear hK K
           refine norm_ (a' := ?_) ?_ ?_
           rotate_left
           · show Act.put _ (some 11) _ = _
             simp only [Act.put, sA, sB, sC, i64_w, i32_w]
             rfl
           exact norm_ (by simp only [putAll, Act.put, sA, sB, sC]) (hCont (gb351) _ ⟨hHeld, (by (with_reducible repeat (first | apply Kd.R_alloc | apply Kd.R_drewN | apply Kd.R_drew)); exact HO323.out), (by (with_reducible repeat (first | apply Kd.R_alloc | apply Kd.R_drewN | apply Kd.R_drew)); exact HO339.out), (bl_ BK315.out), (bl_ BK316.out), (bl_ BK317.out), (bl_ BK334.out), (bl_ BK340.out), (bl_ BK351.out), GW351.out, GE351.out, NB315_351.out, NB351_315.out, NB316_351.out, NB351_316.out, NB317_351.out, NB351_317.out, NB334_351.out, NB351_334.out, NB340_351.out, NB351_340.out, (bs6_ HB.out GE315.out GE316.out GE317.out GE334.out GE340.out GE351.out)⟩)
         · skip
           refine box_step ?hg (N := 11) ?hd (cs := #[.int .i64 0, .int .i64 0, .int .i64 0]) (t := 31) ?hr ?_; (case hd => rfl); (case hg => rfl); (case hr => first | (go_simp; done) | (go_simp; rfl))
           intro gb351 hg w54 hbox hb
           have n0_ := mkA (Kd.R_below (by (with_reducible repeat (first | apply Kd.R_alloc | apply Kd.R_drewN | apply Kd.R_drew)); exact HO323.out) hb)
           have n1_ := mkA (Kd.R_below (by (with_reducible repeat (first | apply Kd.R_alloc | apply Kd.R_drewN | apply Kd.R_drew)); exact HO339.out) hb)
           have n2_ := mkA (blk_below (g := gb315) (o := .cells #[.int .i64 a0_0, .int .i64 a0_1, .slice A0_2 l0_2.length c0_2] 24 (0, 0)) (bl_ BK315.out) hb)
           have n3_ := mkA (blk_below (g := gb316) (o := .cells #[.int .i64 a1_0, .int .i64 a1_1, .int .i64 a1_2] 26 (0, 0)) (bl_ BK316.out) hb)
           have n4_ := mkA (blk_below (g := gb317) (o := .cells #[.int .i64 a2_0, .int .i64 a2_1, .int .i64 a2_2] 26 (0, 0)) (bl_ BK317.out) hb)
           have n5_ := mkA (blk_below (g := gb334) (o := .cells #[.int .i64 t330, .int .i64 t331, .int .i64 t332] 31 (0, 0)) (bl_ BK334.out) hb)
           have n6_ := mkA (blk_below (g := gb340) (o := .cells #[.int .i64 t335, .int .i64 t336, .slice Ao49 t337.length co49] 29 (0, 0)) (bl_ BK340.out) hb)
           have n7_ := mkA (below_step (bs5_ HB.out GE315.out GE316.out GE317.out GE334.out GE340.out) hb)
           have n8_ := mkA (hbox)
           have n9_ := mkA ((by rw [hg]; exact (below_size (bs5_ HB.out GE315.out GE316.out GE317.out GE334.out GE340.out)) : w.heap.size ≤ gb351))
           have n10_ := mkA ((by rw [hg]; exact (below_size (bs5_ HB.out GE315.out GE316.out GE317.out GE334.out GE340.out)) : w.heap.size ≤ gb351))
           have n11_ := mkA ((by rw [hg]; exact Nat.ne_of_lt (blk_lt (g := gb315) (o := .cells #[.int .i64 a0_0, .int .i64 a0_1, .slice A0_2 l0_2.length c0_2] 24 (0, 0)) (bl_ BK315.out)) : gb315 ≠ gb351))
           have n12_ := mkA ((by rw [hg]; exact Nat.ne_of_gt (blk_lt (g := gb315) (o := .cells #[.int .i64 a0_0, .int .i64 a0_1, .slice A0_2 l0_2.length c0_2] 24 (0, 0)) (bl_ BK315.out)) : gb351 ≠ gb315))
           have n13_ := mkA ((by rw [hg]; exact Nat.ne_of_lt (blk_lt (g := gb316) (o := .cells #[.int .i64 a1_0, .int .i64 a1_1, .int .i64 a1_2] 26 (0, 0)) (bl_ BK316.out)) : gb316 ≠ gb351))
           have n14_ := mkA ((by rw [hg]; exact Nat.ne_of_gt (blk_lt (g := gb316) (o := .cells #[.int .i64 a1_0, .int .i64 a1_1, .int .i64 a1_2] 26 (0, 0)) (bl_ BK316.out)) : gb351 ≠ gb316))
           have n15_ := mkA ((by rw [hg]; exact Nat.ne_of_lt (blk_lt (g := gb317) (o := .cells #[.int .i64 a2_0, .int .i64 a2_1, .int .i64 a2_2] 26 (0, 0)) (bl_ BK317.out)) : gb317 ≠ gb351))
           have n16_ := mkA ((by rw [hg]; exact Nat.ne_of_gt (blk_lt (g := gb317) (o := .cells #[.int .i64 a2_0, .int .i64 a2_1, .int .i64 a2_2] 26 (0, 0)) (bl_ BK317.out)) : gb351 ≠ gb317))
           have n17_ := mkA ((by rw [hg]; exact Nat.ne_of_lt (blk_lt (g := gb334) (o := .cells #[.int .i64 t330, .int .i64 t331, .int .i64 t332] 31 (0, 0)) (bl_ BK334.out)) : gb334 ≠ gb351))
           have n18_ := mkA ((by rw [hg]; exact Nat.ne_of_gt (blk_lt (g := gb334) (o := .cells #[.int .i64 t330, .int .i64 t331, .int .i64 t332] 31 (0, 0)) (bl_ BK334.out)) : gb351 ≠ gb334))
           have n19_ := mkA ((by rw [hg]; exact Nat.ne_of_lt (blk_lt (g := gb340) (o := .cells #[.int .i64 t335, .int .i64 t336, .slice Ao49 t337.length co49] 29 (0, 0)) (bl_ BK340.out)) : gb340 ≠ gb351))
           have n20_ := mkA ((by rw [hg]; exact Nat.ne_of_gt (blk_lt (g := gb340) (o := .cells #[.int .i64 t335, .int .i64 t336, .slice Ao49 t337.length co49] 29 (0, 0)) (bl_ BK340.out)) : gb351 ≠ gb340))
           clear HO323
           clear HO339
           clear BK315
           clear BK316
           clear BK317
           clear BK334
           clear BK340
           clear HB
           have HO323 := n0_
           have HO339 := n1_
           have BK315 := n2_
           have BK316 := n3_
           have BK317 := n4_
           have BK334 := n5_
           have BK340 := n6_
           have HB := n7_
           have BK351 := n8_
           have GW351 := n9_
           have GE351 := n10_
           have NB315_351 := n11_
           have NB351_315 := n12_
           have NB316_351 := n13_
           have NB351_316 := n14_
           have NB317_351 := n15_
           have NB351_317 := n16_
           have NB334_351 := n17_
           have NB351_334 := n18_
           have NB340_351 := n19_
           have NB351_340 := n20_
           clear n0_ n1_ n2_ n3_ n4_ n5_ n6_ n7_ n8_ n9_ n10_ n11_ n12_ n13_ n14_ n15_ n16_ n17_ n18_ n19_ n20_
           clear hb hbox hg
           refine hK.out _ _ ⟨(blk_cell BK340.out 0).trans rfl, (blk_cell BK340.out 1).trans rfl, (blk_cell BK340.out 2).trans rfl, (blk_cell BK316.out 0).trans rfl, (blk_cell BK316.out 1).trans rfl, (blk_cell BK316.out 2).trans rfl, (blk_cell BK317.out 0).trans rfl, (blk_cell BK317.out 1).trans rfl, (blk_cell BK317.out 2).trans rfl⟩ (fun hHeld => ?_)
           clear hK K
           refine norm_ (a' := ?_) ?_ ?_
           rotate_left
           · show Act.put _ (some 11) _ = _
             simp only [Act.put, sA, sB, sC, i64_w, i32_w]
             rfl
           refine one_ (i := 5) (N := some 36) laws_FnExactComposeMotions.d35 rfl rfl (one_of HT_.out (by kernel_rfl)) (by decide) (fun K hK => ?_)
           refine goes_ Try.func38 (by kernel_rfl) rfl #[.agg #[.int .i64 t335, .int .i64 t336, .slice Ao49 t337.length co49], .agg #[.int .i64 t341, .int .i64 t342, .int .i64 t343], .agg #[.int .i64 t344, .int .i64 t345, .int .i64 t346]] (by rfl) rfl rfl (by (try simp only [List.map_toArray, List.map_cons, List.map_nil]); first | done | rfl | (simp only [List.length_drop, List.length_take]; rfl)) ?_
           with_reducible refine (impl_ComposeMotions.calls k t335 t336 _ _ t337 t341 t342 t343 t344 t345 t346 t347 t348 t349 t350 _ ?side1 ?side2 A20.out).mono ?_
           (case side1 => repeat (first | exact (Kd.R_reads' HO339.out).2.2 | (with_reducible refine Kd.C_alloc ?_ _) | (with_reducible refine Kd.C_drewN ?_ _) | (with_reducible refine Kd.C_drew ?_)))
           (case side2 => exact (Kd.R_reads' HO339.out).2.1)
           rintro e w55 ⟨rfl, hb⟩
           refine ⟨_, rfl, ?_⟩
           have n0_ := mkA (Kd.R_below (by (with_reducible repeat (first | apply Kd.R_alloc | apply Kd.R_drewN | apply Kd.R_drew)); exact HO323.out) hb)
           have n1_ := mkA (Kd.R_below (by (with_reducible repeat (first | apply Kd.R_alloc | apply Kd.R_drewN | apply Kd.R_drew)); exact HO339.out) hb)
           have n2_ := mkA (blk_below (g := gb315) (o := .cells #[.int .i64 a0_0, .int .i64 a0_1, .slice A0_2 l0_2.length c0_2] 24 (0, 0)) (bl_ BK315.out) hb)
           have n3_ := mkA (blk_below (g := gb316) (o := .cells #[.int .i64 a1_0, .int .i64 a1_1, .int .i64 a1_2] 26 (0, 0)) (bl_ BK316.out) hb)
           have n4_ := mkA (blk_below (g := gb317) (o := .cells #[.int .i64 a2_0, .int .i64 a2_1, .int .i64 a2_2] 26 (0, 0)) (bl_ BK317.out) hb)
           have n5_ := mkA (blk_below (g := gb334) (o := .cells #[.int .i64 t330, .int .i64 t331, .int .i64 t332] 31 (0, 0)) (bl_ BK334.out) hb)
           have n6_ := mkA (blk_below (g := gb340) (o := .cells #[.int .i64 t335, .int .i64 t336, .slice Ao49 t337.length co49] 29 (0, 0)) (bl_ BK340.out) hb)
           have n7_ := mkA (blk_below (g := gb351) (o := .cells #[.int .i64 0, .int .i64 0, .int .i64 0] 31 (0, 0)) (bl_ BK351.out) hb)
           have n8_ := mkA (below_step (bs6_ HB.out GE315.out GE316.out GE317.out GE334.out GE340.out GE351.out) hb)
           clear HO323
           clear HO339
           clear BK315
           clear BK316
           clear BK317
           clear BK334
           clear BK340
           clear BK351
           clear HB
           have HO323 := n0_
           have HO339 := n1_
           have BK315 := n2_
           have BK316 := n3_
           have BK317 := n4_
           have BK334 := n5_
           have BK340 := n6_
           have BK351 := n7_
           have HB := n8_
           clear n0_ n1_ n2_ n3_ n4_ n5_ n6_ n7_ n8_
           (try clear hb)
           (try clear hb2)
           (try clear hk)
           (try clear hi)
           refine hK.out _ _ ⟨(blk_cell BK340.out 0).trans rfl, (blk_cell BK340.out 1).trans rfl, (blk_cell BK340.out 2).trans rfl, (blk_cell BK316.out 0).trans rfl, (blk_cell BK316.out 1).trans rfl, (blk_cell BK316.out 2).trans rfl, (blk_cell BK317.out 0).trans rfl, (blk_cell BK317.out 1).trans rfl, (blk_cell BK317.out 2).trans rfl⟩ (fun hHeld => ?_)
           clear hK K
           refine norm_ (a' := ?_) ?_ ?_
           rotate_left
           · show Act.put _ (some 36) _ = _
             simp only [Act.put, sA, sB, sC, i64_w, i32_w]
             rfl
           refine p1_ HT_.out 6 30 laws_FnExactComposeMotions.d36 ?_
           refine p1_ HT_.out 7 37 laws_FnExactComposeMotions.d37 ?_
           refine p1_ HT_.out 8 38 laws_FnExactComposeMotions.d25 ?_
           exact norm_ (by simp only [putAll, Act.put, sA, sB, sC]) (hCont (gb351) _ ⟨hHeld, (by (with_reducible repeat (first | apply Kd.R_alloc | apply Kd.R_drewN | apply Kd.R_drew)); exact HO323.out), (by (with_reducible repeat (first | apply Kd.R_alloc | apply Kd.R_drewN | apply Kd.R_drew)); exact HO339.out), (bl_ BK315.out), (bl_ BK316.out), (bl_ BK317.out), (bl_ BK334.out), (bl_ BK340.out), (bl_ BK351.out), GW351.out, GE351.out, NB315_351.out, NB351_315.out, NB316_351.out, NB351_316.out, NB317_351.out, NB351_317.out, NB334_351.out, NB351_334.out, NB340_351.out, NB351_340.out, (bs6_ HB.out GE315.out GE316.out GE317.out GE334.out GE340.out GE351.out)⟩)
       · skip
         refine box_step ?hg (N := 11) ?hd (cs := #[.int .i64 0, .int .i64 0, .int .i64 0]) (t := 31) ?hr ?_; (case hd => rfl); (case hg => rfl); (case hr => first | (go_simp; done) | (go_simp; rfl))
         intro gb351 hg w53 hbox hb
         have n0_ := mkA (Kd.R_below (by (with_reducible repeat (first | apply Kd.R_alloc | apply Kd.R_drewN | apply Kd.R_drew)); exact HO323.out) hb)
         have n1_ := mkA (Kd.R_below (by (with_reducible repeat (first | apply Kd.R_alloc | apply Kd.R_drewN | apply Kd.R_drew)); exact HO339.out) hb)
         have n2_ := mkA (blk_below (g := gb315) (o := .cells #[.int .i64 a0_0, .int .i64 a0_1, .slice A0_2 l0_2.length c0_2] 24 (0, 0)) (bl_ BK315.out) hb)
         have n3_ := mkA (blk_below (g := gb316) (o := .cells #[.int .i64 a1_0, .int .i64 a1_1, .int .i64 a1_2] 26 (0, 0)) (bl_ BK316.out) hb)
         have n4_ := mkA (blk_below (g := gb317) (o := .cells #[.int .i64 a2_0, .int .i64 a2_1, .int .i64 a2_2] 26 (0, 0)) (bl_ BK317.out) hb)
         have n5_ := mkA (blk_below (g := gb334) (o := .cells #[.int .i64 t330, .int .i64 t331, .int .i64 t332] 31 (0, 0)) (bl_ BK334.out) hb)
         have n6_ := mkA (blk_below (g := gb340) (o := .cells #[.int .i64 t335, .int .i64 t336, .slice Ao49 t337.length co49] 29 (0, 0)) (bl_ BK340.out) hb)
         have n7_ := mkA (below_step (bs5_ HB.out GE315.out GE316.out GE317.out GE334.out GE340.out) hb)
         have n8_ := mkA (hbox)
         have n9_ := mkA ((by rw [hg]; exact (below_size (bs5_ HB.out GE315.out GE316.out GE317.out GE334.out GE340.out)) : w.heap.size ≤ gb351))
         have n10_ := mkA ((by rw [hg]; exact (below_size (bs5_ HB.out GE315.out GE316.out GE317.out GE334.out GE340.out)) : w.heap.size ≤ gb351))
         have n11_ := mkA ((by rw [hg]; exact Nat.ne_of_lt (blk_lt (g := gb315) (o := .cells #[.int .i64 a0_0, .int .i64 a0_1, .slice A0_2 l0_2.length c0_2] 24 (0, 0)) (bl_ BK315.out)) : gb315 ≠ gb351))
         have n12_ := mkA ((by rw [hg]; exact Nat.ne_of_gt (blk_lt (g := gb315) (o := .cells #[.int .i64 a0_0, .int .i64 a0_1, .slice A0_2 l0_2.length c0_2] 24 (0, 0)) (bl_ BK315.out)) : gb351 ≠ gb315))
         have n13_ := mkA ((by rw [hg]; exact Nat.ne_of_lt (blk_lt (g := gb316) (o := .cells #[.int .i64 a1_0, .int .i64 a1_1, .int .i64 a1_2] 26 (0, 0)) (bl_ BK316.out)) : gb316 ≠ gb351))
         have n14_ := mkA ((by rw [hg]; exact Nat.ne_of_gt (blk_lt (g := gb316) (o := .cells #[.int .i64 a1_0, .int .i64 a1_1, .int .i64 a1_2] 26 (0, 0)) (bl_ BK316.out)) : gb351 ≠ gb316))
         have n15_ := mkA ((by rw [hg]; exact Nat.ne_of_lt (blk_lt (g := gb317) (o := .cells #[.int .i64 a2_0, .int .i64 a2_1, .int .i64 a2_2] 26 (0, 0)) (bl_ BK317.out)) : gb317 ≠ gb351))
         have n16_ := mkA ((by rw [hg]; exact Nat.ne_of_gt (blk_lt (g := gb317) (o := .cells #[.int .i64 a2_0, .int .i64 a2_1, .int .i64 a2_2] 26 (0, 0)) (bl_ BK317.out)) : gb351 ≠ gb317))
         have n17_ := mkA ((by rw [hg]; exact Nat.ne_of_lt (blk_lt (g := gb334) (o := .cells #[.int .i64 t330, .int .i64 t331, .int .i64 t332] 31 (0, 0)) (bl_ BK334.out)) : gb334 ≠ gb351))
         have n18_ := mkA ((by rw [hg]; exact Nat.ne_of_gt (blk_lt (g := gb334) (o := .cells #[.int .i64 t330, .int .i64 t331, .int .i64 t332] 31 (0, 0)) (bl_ BK334.out)) : gb351 ≠ gb334))
         have n19_ := mkA ((by rw [hg]; exact Nat.ne_of_lt (blk_lt (g := gb340) (o := .cells #[.int .i64 t335, .int .i64 t336, .slice Ao49 t337.length co49] 29 (0, 0)) (bl_ BK340.out)) : gb340 ≠ gb351))
         have n20_ := mkA ((by rw [hg]; exact Nat.ne_of_gt (blk_lt (g := gb340) (o := .cells #[.int .i64 t335, .int .i64 t336, .slice Ao49 t337.length co49] 29 (0, 0)) (bl_ BK340.out)) : gb351 ≠ gb340))
         clear HO323
         clear HO339
         clear BK315
         clear BK316
         clear BK317
         clear BK334
         clear BK340
         clear HB
         have HO323 := n0_
         have HO339 := n1_
         have BK315 := n2_
         have BK316 := n3_
         have BK317 := n4_
         have BK334 := n5_
         have BK340 := n6_
         have HB := n7_
         have BK351 := n8_
         have GW351 := n9_
         have GE351 := n10_
         have NB315_351 := n11_
         have NB351_315 := n12_
         have NB316_351 := n13_
         have NB351_316 := n14_
         have NB317_351 := n15_
         have NB351_317 := n16_
         have NB334_351 := n17_
         have NB351_334 := n18_
         have NB340_351 := n19_
         have NB351_340 := n20_
         clear n0_ n1_ n2_ n3_ n4_ n5_ n6_ n7_ n8_ n9_ n10_ n11_ n12_ n13_ n14_ n15_ n16_ n17_ n18_ n19_ n20_
         clear hb hbox hg
         refine hK.out _ _ ⟨(blk_cell BK340.out 0).trans rfl, (blk_cell BK340.out 1).trans rfl, (blk_cell BK340.out 2).trans rfl, (blk_cell BK316.out 0).trans rfl, (blk_cell BK316.out 1).trans rfl, (blk_cell BK316.out 2).trans rfl, (blk_cell BK317.out 0).trans rfl, (blk_cell BK317.out 1).trans rfl, (blk_cell BK317.out 2).trans rfl⟩ (fun hHeld => ?_)
         clear hK K
         refine norm_ (a' := ?_) ?_ ?_
         rotate_left
         · show Act.put _ (some 11) _ = _
           simp only [Act.put, sA, sB, sC, i64_w, i32_w]
           rfl
         refine one_ (i := 4) (N := some 35) laws_FnExactComposeMotions.d31 rfl rfl (one_of HT_.out (by kernel_rfl)) (by decide) (fun K hK => ?_)
         refine goes_ Try.func18 (by kernel_rfl) rfl #[.agg #[.int .i64 a2_0, .int .i64 a2_1, .int .i64 a2_2]] (by rfl) rfl rfl (by (try simp only [List.map_toArray, List.map_cons, List.map_nil]); first | done | rfl | (simp only [List.length_drop, List.length_take]; rfl)) ?_
         with_reducible refine (laws_toMotion.calls a2_0 a2_1 a2_2 t344 t345 t346 _ A19.out).mono ?_
         rintro e w54 ⟨rfl, hb⟩
         refine ⟨_, rfl, ?_⟩
         have n0_ := mkA (Kd.R_below (by (with_reducible repeat (first | apply Kd.R_alloc | apply Kd.R_drewN | apply Kd.R_drew)); exact HO323.out) hb)
         have n1_ := mkA (Kd.R_below (by (with_reducible repeat (first | apply Kd.R_alloc | apply Kd.R_drewN | apply Kd.R_drew)); exact HO339.out) hb)
         have n2_ := mkA (blk_below (g := gb315) (o := .cells #[.int .i64 a0_0, .int .i64 a0_1, .slice A0_2 l0_2.length c0_2] 24 (0, 0)) (bl_ BK315.out) hb)
         have n3_ := mkA (blk_below (g := gb316) (o := .cells #[.int .i64 a1_0, .int .i64 a1_1, .int .i64 a1_2] 26 (0, 0)) (bl_ BK316.out) hb)
         have n4_ := mkA (blk_below (g := gb317) (o := .cells #[.int .i64 a2_0, .int .i64 a2_1, .int .i64 a2_2] 26 (0, 0)) (bl_ BK317.out) hb)
         have n5_ := mkA (blk_below (g := gb334) (o := .cells #[.int .i64 t330, .int .i64 t331, .int .i64 t332] 31 (0, 0)) (bl_ BK334.out) hb)
         have n6_ := mkA (blk_below (g := gb340) (o := .cells #[.int .i64 t335, .int .i64 t336, .slice Ao49 t337.length co49] 29 (0, 0)) (bl_ BK340.out) hb)
         have n7_ := mkA (blk_below (g := gb351) (o := .cells #[.int .i64 0, .int .i64 0, .int .i64 0] 31 (0, 0)) (bl_ BK351.out) hb)
         have n8_ := mkA (below_step (bs6_ HB.out GE315.out GE316.out GE317.out GE334.out GE340.out GE351.out) hb)
         clear HO323
         clear HO339
         clear BK315
         clear BK316
         clear BK317
         clear BK334
         clear BK340
         clear BK351
         clear HB
         have HO323 := n0_
         have HO339 := n1_
         have BK315 := n2_
         have BK316 := n3_
         have BK317 := n4_
         have BK334 := n5_
         have BK340 := n6_
         have BK351 := n7_
         have HB := n8_
         clear n0_ n1_ n2_ n3_ n4_ n5_ n6_ n7_ n8_
         (try clear hb)
         (try clear hb2)
         (try clear hk)
         (try clear hi)
         refine hK.out _ _ ⟨(blk_cell BK340.out 0).trans rfl, (blk_cell BK340.out 1).trans rfl, (blk_cell BK340.out 2).trans rfl, (blk_cell BK316.out 0).trans rfl, (blk_cell BK316.out 1).trans rfl, (blk_cell BK316.out 2).trans rfl, (blk_cell BK317.out 0).trans rfl, (blk_cell BK317.out 1).trans rfl, (blk_cell BK317.out 2).trans rfl⟩ (fun hHeld => ?_)
         clear hK K
         refine norm_ (a' := ?_) ?_ ?_
         rotate_left
         · show Act.put _ (some 35) _ = _
           simp only [Act.put, sA, sB, sC, i64_w, i32_w]
           rfl
         refine one_ (i := 5) (N := some 36) laws_FnExactComposeMotions.d35 rfl rfl (one_of HT_.out (by kernel_rfl)) (by decide) (fun K hK => ?_)
         refine goes_ Try.func38 (by kernel_rfl) rfl #[.agg #[.int .i64 t335, .int .i64 t336, .slice Ao49 t337.length co49], .agg #[.int .i64 t341, .int .i64 t342, .int .i64 t343], .agg #[.int .i64 t344, .int .i64 t345, .int .i64 t346]] (by rfl) rfl rfl (by (try simp only [List.map_toArray, List.map_cons, List.map_nil]); first | done | rfl | (simp only [List.length_drop, List.length_take]; rfl)) ?_
         with_reducible refine (impl_ComposeMotions.calls k t335 t336 _ _ t337 t341 t342 t343 t344 t345 t346 t347 t348 t349 t350 _ ?side1 ?side2 A20.out).mono ?_
         (case side1 => repeat (first | exact (Kd.R_reads' HO339.out).2.2 | (with_reducible refine Kd.C_alloc ?_ _) | (with_reducible refine Kd.C_drewN ?_ _) | (with_reducible refine Kd.C_drew ?_)))
         (case side2 => exact (Kd.R_reads' HO339.out).2.1)
         rintro e w55 ⟨rfl, hb⟩
         refine ⟨_, rfl, ?_⟩
         have n0_ := mkA (Kd.R_below (by (with_reducible repeat (first | apply Kd.R_alloc | apply Kd.R_drewN | apply Kd.R_drew)); exact HO323.out) hb)
         have n1_ := mkA (Kd.R_below (by (with_reducible repeat (first | apply Kd.R_alloc | apply Kd.R_drewN | apply Kd.R_drew)); exact HO339.out) hb)
         have n2_ := mkA (blk_below (g := gb315) (o := .cells #[.int .i64 a0_0, .int .i64 a0_1, .slice A0_2 l0_2.length c0_2] 24 (0, 0)) (bl_ BK315.out) hb)
         have n3_ := mkA (blk_below (g := gb316) (o := .cells #[.int .i64 a1_0, .int .i64 a1_1, .int .i64 a1_2] 26 (0, 0)) (bl_ BK316.out) hb)
         have n4_ := mkA (blk_below (g := gb317) (o := .cells #[.int .i64 a2_0, .int .i64 a2_1, .int .i64 a2_2] 26 (0, 0)) (bl_ BK317.out) hb)
         have n5_ := mkA (blk_below (g := gb334) (o := .cells #[.int .i64 t330, .int .i64 t331, .int .i64 t332] 31 (0, 0)) (bl_ BK334.out) hb)
         have n6_ := mkA (blk_below (g := gb340) (o := .cells #[.int .i64 t335, .int .i64 t336, .slice Ao49 t337.length co49] 29 (0, 0)) (bl_ BK340.out) hb)
         have n7_ := mkA (blk_below (g := gb351) (o := .cells #[.int .i64 0, .int .i64 0, .int .i64 0] 31 (0, 0)) (bl_ BK351.out) hb)
         have n8_ := mkA (below_step (bs6_ HB.out GE315.out GE316.out GE317.out GE334.out GE340.out GE351.out) hb)
         clear HO323
         clear HO339
         clear BK315
         clear BK316
         clear BK317
         clear BK334
         clear BK340
         clear BK351
         clear HB
         have HO323 := n0_
         have HO339 := n1_
         have BK315 := n2_
         have BK316 := n3_
         have BK317 := n4_
         have BK334 := n5_
         have BK340 := n6_
         have BK351 := n7_
         have HB := n8_
         clear n0_ n1_ n2_ n3_ n4_ n5_ n6_ n7_ n8_
         (try clear hb)
         (try clear hb2)
         (try clear hk)
         (try clear hi)
         refine hK.out _ _ ⟨(blk_cell BK340.out 0).trans rfl, (blk_cell BK340.out 1).trans rfl, (blk_cell BK340.out 2).trans rfl, (blk_cell BK316.out 0).trans rfl, (blk_cell BK316.out 1).trans rfl, (blk_cell BK316.out 2).trans rfl, (blk_cell BK317.out 0).trans rfl, (blk_cell BK317.out 1).trans rfl, (blk_cell BK317.out 2).trans rfl⟩ (fun hHeld => ?_)
         clear hK K
         refine norm_ (a' := ?_) ?_ ?_
         rotate_left
         · show Act.put _ (some 36) _ = _
           simp only [Act.put, sA, sB, sC, i64_w, i32_w]
           rfl
         refine p1_ HT_.out 6 30 laws_FnExactComposeMotions.d36 ?_
         refine p1_ HT_.out 7 37 laws_FnExactComposeMotions.d37 ?_
         refine p1_ HT_.out 8 38 laws_FnExactComposeMotions.d25 ?_
         exact norm_ (by simp only [putAll, Act.put, sA, sB, sC]) (hCont (gb351) _ ⟨hHeld, (by (with_reducible repeat (first | apply Kd.R_alloc | apply Kd.R_drewN | apply Kd.R_drew)); exact HO323.out), (by (with_reducible repeat (first | apply Kd.R_alloc | apply Kd.R_drewN | apply Kd.R_drew)); exact HO339.out), (bl_ BK315.out), (bl_ BK316.out), (bl_ BK317.out), (bl_ BK334.out), (bl_ BK340.out), (bl_ BK351.out), GW351.out, GE351.out, NB315_351.out, NB351_315.out, NB316_351.out, NB351_316.out, NB317_351.out, NB351_317.out, NB334_351.out, NB351_334.out, NB340_351.out, NB351_340.out, (bs6_ HB.out GE315.out GE316.out GE317.out GE334.out GE340.out GE351.out)⟩)
     · skip
       refine box_step ?hg (N := 11) ?hd (cs := #[.int .i64 0, .int .i64 0, .int .i64 0]) (t := 31) ?hr ?_; (case hd => rfl); (case hg => rfl); (case hr => first | (go_simp; done) | (go_simp; rfl))
       intro gb351 hg w52 hbox hb
       have n0_ := mkA (Kd.R_below (by (with_reducible repeat (first | apply Kd.R_alloc | apply Kd.R_drewN | apply Kd.R_drew)); exact HO323.out) hb)
       have n1_ := mkA (Kd.R_below (by (with_reducible repeat (first | apply Kd.R_alloc | apply Kd.R_drewN | apply Kd.R_drew)); exact HO339.out) hb)
       have n2_ := mkA (blk_below (g := gb315) (o := .cells #[.int .i64 a0_0, .int .i64 a0_1, .slice A0_2 l0_2.length c0_2] 24 (0, 0)) (bl_ BK315.out) hb)
       have n3_ := mkA (blk_below (g := gb316) (o := .cells #[.int .i64 a1_0, .int .i64 a1_1, .int .i64 a1_2] 26 (0, 0)) (bl_ BK316.out) hb)
       have n4_ := mkA (blk_below (g := gb317) (o := .cells #[.int .i64 a2_0, .int .i64 a2_1, .int .i64 a2_2] 26 (0, 0)) (bl_ BK317.out) hb)
       have n5_ := mkA (blk_below (g := gb334) (o := .cells #[.int .i64 t330, .int .i64 t331, .int .i64 t332] 31 (0, 0)) (bl_ BK334.out) hb)
       have n6_ := mkA (blk_below (g := gb340) (o := .cells #[.int .i64 t335, .int .i64 t336, .slice Ao49 t337.length co49] 29 (0, 0)) (bl_ BK340.out) hb)
       have n7_ := mkA (below_step (bs5_ HB.out GE315.out GE316.out GE317.out GE334.out GE340.out) hb)
       have n8_ := mkA (hbox)
       have n9_ := mkA ((by rw [hg]; exact (below_size (bs5_ HB.out GE315.out GE316.out GE317.out GE334.out GE340.out)) : w.heap.size ≤ gb351))
       have n10_ := mkA ((by rw [hg]; exact (below_size (bs5_ HB.out GE315.out GE316.out GE317.out GE334.out GE340.out)) : w.heap.size ≤ gb351))
       have n11_ := mkA ((by rw [hg]; exact Nat.ne_of_lt (blk_lt (g := gb315) (o := .cells #[.int .i64 a0_0, .int .i64 a0_1, .slice A0_2 l0_2.length c0_2] 24 (0, 0)) (bl_ BK315.out)) : gb315 ≠ gb351))
       have n12_ := mkA ((by rw [hg]; exact Nat.ne_of_gt (blk_lt (g := gb315) (o := .cells #[.int .i64 a0_0, .int .i64 a0_1, .slice A0_2 l0_2.length c0_2] 24 (0, 0)) (bl_ BK315.out)) : gb351 ≠ gb315))
       have n13_ := mkA ((by rw [hg]; exact Nat.ne_of_lt (blk_lt (g := gb316) (o := .cells #[.int .i64 a1_0, .int .i64 a1_1, .int .i64 a1_2] 26 (0, 0)) (bl_ BK316.out)) : gb316 ≠ gb351))
       have n14_ := mkA ((by rw [hg]; exact Nat.ne_of_gt (blk_lt (g := gb316) (o := .cells #[.int .i64 a1_0, .int .i64 a1_1, .int .i64 a1_2] 26 (0, 0)) (bl_ BK316.out)) : gb351 ≠ gb316))
       have n15_ := mkA ((by rw [hg]; exact Nat.ne_of_lt (blk_lt (g := gb317) (o := .cells #[.int .i64 a2_0, .int .i64 a2_1, .int .i64 a2_2] 26 (0, 0)) (bl_ BK317.out)) : gb317 ≠ gb351))
       have n16_ := mkA ((by rw [hg]; exact Nat.ne_of_gt (blk_lt (g := gb317) (o := .cells #[.int .i64 a2_0, .int .i64 a2_1, .int .i64 a2_2] 26 (0, 0)) (bl_ BK317.out)) : gb351 ≠ gb317))
       have n17_ := mkA ((by rw [hg]; exact Nat.ne_of_lt (blk_lt (g := gb334) (o := .cells #[.int .i64 t330, .int .i64 t331, .int .i64 t332] 31 (0, 0)) (bl_ BK334.out)) : gb334 ≠ gb351))
       have n18_ := mkA ((by rw [hg]; exact Nat.ne_of_gt (blk_lt (g := gb334) (o := .cells #[.int .i64 t330, .int .i64 t331, .int .i64 t332] 31 (0, 0)) (bl_ BK334.out)) : gb351 ≠ gb334))
       have n19_ := mkA ((by rw [hg]; exact Nat.ne_of_lt (blk_lt (g := gb340) (o := .cells #[.int .i64 t335, .int .i64 t336, .slice Ao49 t337.length co49] 29 (0, 0)) (bl_ BK340.out)) : gb340 ≠ gb351))
       have n20_ := mkA ((by rw [hg]; exact Nat.ne_of_gt (blk_lt (g := gb340) (o := .cells #[.int .i64 t335, .int .i64 t336, .slice Ao49 t337.length co49] 29 (0, 0)) (bl_ BK340.out)) : gb351 ≠ gb340))
       clear HO323
       clear HO339
       clear BK315
       clear BK316
       clear BK317
       clear BK334
       clear BK340
       clear HB
       have HO323 := n0_
       have HO339 := n1_
       have BK315 := n2_
       have BK316 := n3_
       have BK317 := n4_
       have BK334 := n5_
       have BK340 := n6_
       have HB := n7_
       have BK351 := n8_
       have GW351 := n9_
       have GE351 := n10_
       have NB315_351 := n11_
       have NB351_315 := n12_
       have NB316_351 := n13_
       have NB351_316 := n14_
       have NB317_351 := n15_
       have NB351_317 := n16_
       have NB334_351 := n17_
       have NB351_334 := n18_
       have NB340_351 := n19_
       have NB351_340 := n20_
       clear n0_ n1_ n2_ n3_ n4_ n5_ n6_ n7_ n8_ n9_ n10_ n11_ n12_ n13_ n14_ n15_ n16_ n17_ n18_ n19_ n20_
       clear hb hbox hg
       refine hK.out _ _ ⟨(blk_cell BK340.out 0).trans rfl, (blk_cell BK340.out 1).trans rfl, (blk_cell BK340.out 2).trans rfl, (blk_cell BK316.out 0).trans rfl, (blk_cell BK316.out 1).trans rfl, (blk_cell BK316.out 2).trans rfl, (blk_cell BK317.out 0).trans rfl, (blk_cell BK317.out 1).trans rfl, (blk_cell BK317.out 2).trans rfl⟩ (fun hHeld => ?_)
       clear hK K
       refine norm_ (a' := ?_) ?_ ?_
       rotate_left
       · show Act.put _ (some 11) _ = _
         simp only [Act.put, sA, sB, sC, i64_w, i32_w]
         rfl
       refine one_ (i := 2) (N := some 33) laws_FnExactComposeMotions.d29 rfl rfl (one_of HT_.out (by kernel_rfl)) (by decide) (fun K hK => ?_)
       refine goes_ Try.func18 (by kernel_rfl) rfl #[.agg #[.int .i64 a1_0, .int .i64 a1_1, .int .i64 a1_2]] (by rfl) rfl rfl (by (try simp only [List.map_toArray, List.map_cons, List.map_nil]); first | done | rfl | (simp only [List.length_drop, List.length_take]; rfl)) ?_
       with_reducible refine (laws_toMotion.calls a1_0 a1_1 a1_2 t341 t342 t343 _ A18.out).mono ?_
       rintro e w53 ⟨rfl, hb⟩
       refine ⟨_, rfl, ?_⟩
       have n0_ := mkA (Kd.R_below (by (with_reducible repeat (first | apply Kd.R_alloc | apply Kd.R_drewN | apply Kd.R_drew)); exact HO323.out) hb)
       have n1_ := mkA (Kd.R_below (by (with_reducible repeat (first | apply Kd.R_alloc | apply Kd.R_drewN | apply Kd.R_drew)); exact HO339.out) hb)
       have n2_ := mkA (blk_below (g := gb315) (o := .cells #[.int .i64 a0_0, .int .i64 a0_1, .slice A0_2 l0_2.length c0_2] 24 (0, 0)) (bl_ BK315.out) hb)
       have n3_ := mkA (blk_below (g := gb316) (o := .cells #[.int .i64 a1_0, .int .i64 a1_1, .int .i64 a1_2] 26 (0, 0)) (bl_ BK316.out) hb)
       have n4_ := mkA (blk_below (g := gb317) (o := .cells #[.int .i64 a2_0, .int .i64 a2_1, .int .i64 a2_2] 26 (0, 0)) (bl_ BK317.out) hb)
       have n5_ := mkA (blk_below (g := gb334) (o := .cells #[.int .i64 t330, .int .i64 t331, .int .i64 t332] 31 (0, 0)) (bl_ BK334.out) hb)
       have n6_ := mkA (blk_below (g := gb340) (o := .cells #[.int .i64 t335, .int .i64 t336, .slice Ao49 t337.length co49] 29 (0, 0)) (bl_ BK340.out) hb)
       have n7_ := mkA (blk_below (g := gb351) (o := .cells #[.int .i64 0, .int .i64 0, .int .i64 0] 31 (0, 0)) (bl_ BK351.out) hb)
       have n8_ := mkA (below_step (bs6_ HB.out GE315.out GE316.out GE317.out GE334.out GE340.out GE351.out) hb)
       clear HO323
       clear HO339
       clear BK315
       clear BK316
       clear BK317
       clear BK334
       clear BK340
       clear BK351
       clear HB
       have HO323 := n0_
       have HO339 := n1_
       have BK315 := n2_
       have BK316 := n3_
       have BK317 := n4_
       have BK334 := n5_
       have BK340 := n6_
       have BK351 := n7_
       have HB := n8_
       clear n0_ n1_ n2_ n3_ n4_ n5_ n6_ n7_ n8_
       (try clear hb)
       (try clear hb2)
       (try clear hk)
       (try clear hi)
       refine hK.out _ _ ⟨(blk_cell BK340.out 0).trans rfl, (blk_cell BK340.out 1).trans rfl, (blk_cell BK340.out 2).trans rfl, (blk_cell BK316.out 0).trans rfl, (blk_cell BK316.out 1).trans rfl, (blk_cell BK316.out 2).trans rfl, (blk_cell BK317.out 0).trans rfl, (blk_cell BK317.out 1).trans rfl, (blk_cell BK317.out 2).trans rfl⟩ (fun hHeld => ?_)
       clear hK K
       refine norm_ (a' := ?_) ?_ ?_
       rotate_left
       · show Act.put _ (some 33) _ = _
         simp only [Act.put, sA, sB, sC, i64_w, i32_w]
         rfl
       refine one_ (i := 4) (N := some 35) laws_FnExactComposeMotions.d31 rfl rfl (one_of HT_.out (by kernel_rfl)) (by decide) (fun K hK => ?_)
       refine goes_ Try.func18 (by kernel_rfl) rfl #[.agg #[.int .i64 a2_0, .int .i64 a2_1, .int .i64 a2_2]] (by rfl) rfl rfl (by (try simp only [List.map_toArray, List.map_cons, List.map_nil]); first | done | rfl | (simp only [List.length_drop, List.length_take]; rfl)) ?_
       with_reducible refine (laws_toMotion.calls a2_0 a2_1 a2_2 t344 t345 t346 _ A19.out).mono ?_
       rintro e w54 ⟨rfl, hb⟩
       refine ⟨_, rfl, ?_⟩
       have n0_ := mkA (Kd.R_below (by (with_reducible repeat (first | apply Kd.R_alloc | apply Kd.R_drewN | apply Kd.R_drew)); exact HO323.out) hb)
       have n1_ := mkA (Kd.R_below (by (with_reducible repeat (first | apply Kd.R_alloc | apply Kd.R_drewN | apply Kd.R_drew)); exact HO339.out) hb)
       have n2_ := mkA (blk_below (g := gb315) (o := .cells #[.int .i64 a0_0, .int .i64 a0_1, .slice A0_2 l0_2.length c0_2] 24 (0, 0)) (bl_ BK315.out) hb)
       have n3_ := mkA (blk_below (g := gb316) (o := .cells #[.int .i64 a1_0, .int .i64 a1_1, .int .i64 a1_2] 26 (0, 0)) (bl_ BK316.out) hb)
       have n4_ := mkA (blk_below (g := gb317) (o := .cells #[.int .i64 a2_0, .int .i64 a2_1, .int .i64 a2_2] 26 (0, 0)) (bl_ BK317.out) hb)
       have n5_ := mkA (blk_below (g := gb334) (o := .cells #[.int .i64 t330, .int .i64 t331, .int .i64 t332] 31 (0, 0)) (bl_ BK334.out) hb)
       have n6_ := mkA (blk_below (g := gb340) (o := .cells #[.int .i64 t335, .int .i64 t336, .slice Ao49 t337.length co49] 29 (0, 0)) (bl_ BK340.out) hb)
       have n7_ := mkA (blk_below (g := gb351) (o := .cells #[.int .i64 0, .int .i64 0, .int .i64 0] 31 (0, 0)) (bl_ BK351.out) hb)
       have n8_ := mkA (below_step (bs6_ HB.out GE315.out GE316.out GE317.out GE334.out GE340.out GE351.out) hb)
       clear HO323
       clear HO339
       clear BK315
       clear BK316
       clear BK317
       clear BK334
       clear BK340
       clear BK351
       clear HB
       have HO323 := n0_
       have HO339 := n1_
       have BK315 := n2_
       have BK316 := n3_
       have BK317 := n4_
       have BK334 := n5_
       have BK340 := n6_
       have BK351 := n7_
       have HB := n8_
       clear n0_ n1_ n2_ n3_ n4_ n5_ n6_ n7_ n8_
       (try clear hb)
       (try clear hb2)
       (try clear hk)
       (try clear hi)
       refine hK.out _ _ ⟨(blk_cell BK340.out 0).trans rfl, (blk_cell BK340.out 1).trans rfl, (blk_cell BK340.out 2).trans rfl, (blk_cell BK316.out 0).trans rfl, (blk_cell BK316.out 1).trans rfl, (blk_cell BK316.out 2).trans rfl, (blk_cell BK317.out 0).trans rfl, (blk_cell BK317.out 1).trans rfl, (blk_cell BK317.out 2).trans rfl⟩ (fun hHeld => ?_)
       clear hK K
       refine norm_ (a' := ?_) ?_ ?_
       rotate_left
       · show Act.put _ (some 35) _ = _
         simp only [Act.put, sA, sB, sC, i64_w, i32_w]
         rfl
       refine one_ (i := 5) (N := some 36) laws_FnExactComposeMotions.d35 rfl rfl (one_of HT_.out (by kernel_rfl)) (by decide) (fun K hK => ?_)
       refine goes_ Try.func38 (by kernel_rfl) rfl #[.agg #[.int .i64 t335, .int .i64 t336, .slice Ao49 t337.length co49], .agg #[.int .i64 t341, .int .i64 t342, .int .i64 t343], .agg #[.int .i64 t344, .int .i64 t345, .int .i64 t346]] (by rfl) rfl rfl (by (try simp only [List.map_toArray, List.map_cons, List.map_nil]); first | done | rfl | (simp only [List.length_drop, List.length_take]; rfl)) ?_
       with_reducible refine (impl_ComposeMotions.calls k t335 t336 _ _ t337 t341 t342 t343 t344 t345 t346 t347 t348 t349 t350 _ ?side1 ?side2 A20.out).mono ?_
       (case side1 => repeat (first | exact (Kd.R_reads' HO339.out).2.2 | (with_reducible refine Kd.C_alloc ?_ _) | (with_reducible refine Kd.C_drewN ?_ _) | (with_reducible refine Kd.C_drew ?_)))
       (case side2 => exact (Kd.R_reads' HO339.out).2.1)
       rintro e w55 ⟨rfl, hb⟩
       refine ⟨_, rfl, ?_⟩
       have n0_ := mkA (Kd.R_below (by (with_reducible repeat (first | apply Kd.R_alloc | apply Kd.R_drewN | apply Kd.R_drew)); exact HO323.out) hb)
       have n1_ := mkA (Kd.R_below (by (with_reducible repeat (first | apply Kd.R_alloc | apply Kd.R_drewN | apply Kd.R_drew)); exact HO339.out) hb)
       have n2_ := mkA (blk_below (g := gb315) (o := .cells #[.int .i64 a0_0, .int .i64 a0_1, .slice A0_2 l0_2.length c0_2] 24 (0, 0)) (bl_ BK315.out) hb)
       have n3_ := mkA (blk_below (g := gb316) (o := .cells #[.int .i64 a1_0, .int .i64 a1_1, .int .i64 a1_2] 26 (0, 0)) (bl_ BK316.out) hb)
       have n4_ := mkA (blk_below (g := gb317) (o := .cells #[.int .i64 a2_0, .int .i64 a2_1, .int .i64 a2_2] 26 (0, 0)) (bl_ BK317.out) hb)
       have n5_ := mkA (blk_below (g := gb334) (o := .cells #[.int .i64 t330, .int .i64 t331, .int .i64 t332] 31 (0, 0)) (bl_ BK334.out) hb)
       have n6_ := mkA (blk_below (g := gb340) (o := .cells #[.int .i64 t335, .int .i64 t336, .slice Ao49 t337.length co49] 29 (0, 0)) (bl_ BK340.out) hb)
       have n7_ := mkA (blk_below (g := gb351) (o := .cells #[.int .i64 0, .int .i64 0, .int .i64 0] 31 (0, 0)) (bl_ BK351.out) hb)
       have n8_ := mkA (below_step (bs6_ HB.out GE315.out GE316.out GE317.out GE334.out GE340.out GE351.out) hb)
       clear HO323
       clear HO339
       clear BK315
       clear BK316
       clear BK317
       clear BK334
       clear BK340
       clear BK351
       clear HB
       have HO323 := n0_
       have HO339 := n1_
       have BK315 := n2_
       have BK316 := n3_
       have BK317 := n4_
       have BK334 := n5_
       have BK340 := n6_
       have BK351 := n7_
       have HB := n8_
       clear n0_ n1_ n2_ n3_ n4_ n5_ n6_ n7_ n8_
       (try clear hb)
       (try clear hb2)
       (try clear hk)
       (try clear hi)
       refine hK.out _ _ ⟨(blk_cell BK340.out 0).trans rfl, (blk_cell BK340.out 1).trans rfl, (blk_cell BK340.out 2).trans rfl, (blk_cell BK316.out 0).trans rfl, (blk_cell BK316.out 1).trans rfl, (blk_cell BK316.out 2).trans rfl, (blk_cell BK317.out 0).trans rfl, (blk_cell BK317.out 1).trans rfl, (blk_cell BK317.out 2).trans rfl⟩ (fun hHeld => ?_)
       clear hK K
       refine norm_ (a' := ?_) ?_ ?_
       rotate_left
       · show Act.put _ (some 36) _ = _
         simp only [Act.put, sA, sB, sC, i64_w, i32_w]
         rfl
       refine p1_ HT_.out 6 30 laws_FnExactComposeMotions.d36 ?_
       refine p1_ HT_.out 7 37 laws_FnExactComposeMotions.d37 ?_
       refine p1_ HT_.out 8 38 laws_FnExactComposeMotions.d25 ?_
       exact norm_ (by simp only [putAll, Act.put, sA, sB, sC]) (hCont (gb351) _ ⟨hHeld, (by (with_reducible repeat (first | apply Kd.R_alloc | apply Kd.R_drewN | apply Kd.R_drew)); exact HO323.out), (by (with_reducible repeat (first | apply Kd.R_alloc | apply Kd.R_drewN | apply Kd.R_drew)); exact HO339.out), (bl_ BK315.out), (bl_ BK316.out), (bl_ BK317.out), (bl_ BK334.out), (bl_ BK340.out), (bl_ BK351.out), GW351.out, GE351.out, NB315_351.out, NB351_315.out, NB316_351.out, NB351_316.out, NB317_351.out, NB351_317.out, NB334_351.out, NB351_334.out, NB340_351.out, NB351_340.out, (bs6_ HB.out GE315.out GE316.out GE317.out GE334.out GE340.out GE351.out)⟩)
   rintro gb351 w56 ⟨hS_, h0_, h1_, h2_, h3_, h4_, h5_, h6_, h7_, h8_, h9_, h10_, h11_, h12_, h13_, h14_, h15_, h16_, h17_, h18_, h19_, h20_⟩
   have n0_ : Aside0 (Kd.R (Kd.int .i64) 2 w56 w.heap.size (fun k_ => some k_ ≠ (.slice Ao49 t337.length co49 : Value).ownBlock) v322 t321) := ⟨h0_⟩
   have n1_ : Aside0 (Kd.R (Kd.int .i64) 2 w56 w.heap.size (fun k_ => some k_ ≠ (v322 : Value).ownBlock) (.slice Ao49 t337.length co49) t337) := ⟨h1_⟩
   have n2_ : Aside0 (w56.heap[gb315]? = some (.cells #[.int .i64 a0_0, .int .i64 a0_1, .slice A0_2 l0_2.length c0_2] 24 (0, 0))) := ⟨h2_⟩
   have n3_ : Aside0 (w56.heap[gb316]? = some (.cells #[.int .i64 a1_0, .int .i64 a1_1, .int .i64 a1_2] 26 (0, 0))) := ⟨h3_⟩
   have n4_ : Aside0 (w56.heap[gb317]? = some (.cells #[.int .i64 a2_0, .int .i64 a2_1, .int .i64 a2_2] 26 (0, 0))) := ⟨h4_⟩
   have n5_ : Aside0 (w56.heap[gb334]? = some (.cells #[.int .i64 t330, .int .i64 t331, .int .i64 t332] 31 (0, 0))) := ⟨h5_⟩
   have n6_ : Aside0 (w56.heap[gb340]? = some (.cells #[.int .i64 t335, .int .i64 t336, .slice Ao49 t337.length co49] 29 (0, 0))) := ⟨h6_⟩
   have n7_ : Aside0 (w56.heap[gb351]? = some (.cells #[.int .i64 0, .int .i64 0, .int .i64 0] 31 (0, 0))) := ⟨h7_⟩
   have n8_ : Aside0 (w.heap.size ≤ gb351) := ⟨h8_⟩
   have n9_ : Aside0 (w.heap.size ≤ gb351) := ⟨h9_⟩
   have n10_ : Aside0 (gb315 ≠ gb351) := ⟨h10_⟩
   have n11_ : Aside0 (gb351 ≠ gb315) := ⟨h11_⟩
   have n12_ : Aside0 (gb316 ≠ gb351) := ⟨h12_⟩
   have n13_ : Aside0 (gb351 ≠ gb316) := ⟨h13_⟩
   have n14_ : Aside0 (gb317 ≠ gb351) := ⟨h14_⟩
   have n15_ : Aside0 (gb351 ≠ gb317) := ⟨h15_⟩
   have n16_ : Aside0 (gb334 ≠ gb351) := ⟨h16_⟩
   have n17_ : Aside0 (gb351 ≠ gb334) := ⟨h17_⟩
   have n18_ : Aside0 (gb340 ≠ gb351) := ⟨h18_⟩
   have n19_ : Aside0 (gb351 ≠ gb340) := ⟨h19_⟩
   have n20_ : Aside0 (Below w.heap.size w w56) := ⟨h20_⟩
   clear HO323
   clear HO339
   clear BK315
   clear BK316
   clear BK317
   clear BK334
   clear BK340
   clear HB
   clear h0_ h1_ h2_ h3_ h4_ h5_ h6_ h7_ h8_ h9_ h10_ h11_ h12_ h13_ h14_ h15_ h16_ h17_ h18_ h19_ h20_
   have HO323 := n0_
   have HO339 := n1_
   have BK315 := n2_
   have BK316 := n3_
   have BK317 := n4_
   have BK334 := n5_
   have BK340 := n6_
   have BK351 := n7_
   have GW351 := n8_
   have GE351 := n9_
   have NB315_351 := n10_
   have NB351_315 := n11_
   have NB316_351 := n12_
   have NB351_316 := n13_
   have NB317_351 := n14_
   have NB351_317 := n15_
   have NB334_351 := n16_
   have NB351_334 := n17_
   have NB340_351 := n18_
   have NB351_340 := n19_
   have HB := n20_
   clear n0_ n1_ n2_ n3_ n4_ n5_ n6_ n7_ n8_ n9_ n10_ n11_ n12_ n13_ n14_ n15_ n16_ n17_ n18_ n19_ n20_
   have hHeld : w56.cell? ⟨gb340, 0, none⟩ = some (.int .i64 t335) ∧ w56.cell? ⟨gb340, 1, none⟩ = some (.int .i64 t336) ∧ w56.cell? ⟨gb340, 2, none⟩ = some (.slice Ao49 t337.length co49) ∧ w56.cell? ⟨gb316, 0, none⟩ = some (.int .i64 a1_0) ∧ w56.cell? ⟨gb316, 1, none⟩ = some (.int .i64 a1_1) ∧ w56.cell? ⟨gb316, 2, none⟩ = some (.int .i64 a1_2) ∧ w56.cell? ⟨gb317, 0, none⟩ = some (.int .i64 a2_0) ∧ w56.cell? ⟨gb317, 1, none⟩ = some (.int .i64 a2_1) ∧ w56.cell? ⟨gb317, 2, none⟩ = some (.int .i64 a2_2) := hS_
   refine norm_ (a' := ?_) ?_ ?_
   rotate_left
   · simp only [putAll, Act.put, sA, sB, sC]
     rfl
   refine one_ (i := 10) (N := none) laws_FnExactComposeMotions.d38 rfl rfl (one_of HT_.out (by kernel_rfl)) (by decide) (fun K hK => ?_)
   have hs57 : w56.cell? ⟨gb351, 0, none⟩ = some (.int .i64 0) := (blk_cell BK351.out 0).trans rfl
   have hfs57 := blk_frozen BK351.out 0
   have hns57_0 := NB315_351.out
   have hns57_1 := NB316_351.out
   have hns57_2 := NB317_351.out
   have hns57_3 := NB334_351.out
   have hns57_4 := NB340_351.out
   have hms57_0 := NB351_315.out
   have hms57_1 := NB351_316.out
   have hms57_2 := NB351_317.out
   have hms57_3 := NB351_334.out
   have hms57_4 := NB351_340.out
   have hs58 : w56.cell? ⟨gb351, 1, none⟩ = some (.int .i64 0) := (blk_cell BK351.out 1).trans rfl
   have hfs58 := blk_frozen BK351.out 1
   have hns58_0 := NB315_351.out
   have hns58_1 := NB316_351.out
   have hns58_2 := NB317_351.out
   have hns58_3 := NB334_351.out
   have hns58_4 := NB340_351.out
   have hms58_0 := NB351_315.out
   have hms58_1 := NB351_316.out
   have hms58_2 := NB351_317.out
   have hms58_3 := NB351_334.out
   have hms58_4 := NB351_340.out
   have hs59 : w56.cell? ⟨gb351, 2, none⟩ = some (.int .i64 0) := (blk_cell BK351.out 2).trans rfl
   have hfs59 := blk_frozen BK351.out 2
   have hns59_0 := NB315_351.out
   have hns59_1 := NB316_351.out
   have hns59_2 := NB317_351.out
   have hns59_3 := NB334_351.out
   have hns59_4 := NB340_351.out
   have hms59_0 := NB351_315.out
   have hms59_1 := NB351_316.out
   have hms59_2 := NB351_317.out
   have hms59_3 := NB351_334.out
   have hms59_4 := NB351_340.out
   refine skip_ (w1 := ?_) (by rfl) rfl ?_ ?_
   rotate_left
   · go_simp
     rfl
   refine hK.out _ _ ⟨((cell_far (p := ⟨gb351, _, none⟩) NB340_351.out _).trans (((cell_far (p := ⟨gb351, _, none⟩) NB340_351.out _).trans (((cell_far (p := ⟨gb351, _, none⟩) NB340_351.out _).trans (hHeld.1)))))), ((cell_far (p := ⟨gb351, _, none⟩) NB340_351.out _).trans (((cell_far (p := ⟨gb351, _, none⟩) NB340_351.out _).trans (((cell_far (p := ⟨gb351, _, none⟩) NB340_351.out _).trans (hHeld.2.1)))))), ((cell_far (p := ⟨gb351, _, none⟩) NB340_351.out _).trans (((cell_far (p := ⟨gb351, _, none⟩) NB340_351.out _).trans (((cell_far (p := ⟨gb351, _, none⟩) NB340_351.out _).trans (hHeld.2.2.1)))))), ((cell_far (p := ⟨gb351, _, none⟩) NB316_351.out _).trans (((cell_far (p := ⟨gb351, _, none⟩) NB316_351.out _).trans (((cell_far (p := ⟨gb351, _, none⟩) NB316_351.out _).trans (hHeld.2.2.2.1)))))), ((cell_far (p := ⟨gb351, _, none⟩) NB316_351.out _).trans (((cell_far (p := ⟨gb351, _, none⟩) NB316_351.out _).trans (((cell_far (p := ⟨gb351, _, none⟩) NB316_351.out _).trans (hHeld.2.2.2.2.1)))))), ((cell_far (p := ⟨gb351, _, none⟩) NB316_351.out _).trans (((cell_far (p := ⟨gb351, _, none⟩) NB316_351.out _).trans (((cell_far (p := ⟨gb351, _, none⟩) NB316_351.out _).trans (hHeld.2.2.2.2.2.1)))))), ((cell_far (p := ⟨gb351, _, none⟩) NB317_351.out _).trans (((cell_far (p := ⟨gb351, _, none⟩) NB317_351.out _).trans (((cell_far (p := ⟨gb351, _, none⟩) NB317_351.out _).trans (hHeld.2.2.2.2.2.2.1)))))), ((cell_far (p := ⟨gb351, _, none⟩) NB317_351.out _).trans (((cell_far (p := ⟨gb351, _, none⟩) NB317_351.out _).trans (((cell_far (p := ⟨gb351, _, none⟩) NB317_351.out _).trans (hHeld.2.2.2.2.2.2.2.1)))))), ((cell_far (p := ⟨gb351, _, none⟩) NB317_351.out _).trans (((cell_far (p := ⟨gb351, _, none⟩) NB317_351.out _).trans (((cell_far (p := ⟨gb351, _, none⟩) NB317_351.out _).trans (hHeld.2.2.2.2.2.2.2.2))))))⟩ (fun hHeld => ?_)
   clear hK K
   refine p1_ HT_.out 11 12 laws_FnExactComposeMotions.d39 ?_
   refine done_ (done_of HT_.out (by kernel_rfl)) ?_
   go_upto_region 8 with (fail)
   go_cut [47] (fun v47 wc => ∃ (kq : Nat) (x47_20 : Bool), v47 = .bool x47_20 ∧ Aside0 (laws_FnExactComposeMotions.j0 kq x47_20 a0_0 a0_1 l0_2 t335 t336 t337 = some r) ∧ Aside0 (kq ≤ k) ∧ Aside0 (Kd.R (Kd.int .i64) 2 wc w.heap.size (fun _ => True) (.slice Ao49 t337.length co49) t337) ∧ Aside0 (wc.heap[gb315]? = some (.cells #[.int .i64 a0_0, .int .i64 a0_1, (.slice A0_2 l0_2.length c0_2)] 24 (0, 0))) ∧ Aside0 (wc.heap[gb316]? = some (.cells #[.int .i64 a1_0, .int .i64 a1_1, .int .i64 a1_2] 26 (0, 0))) ∧ Aside0 (wc.heap[gb317]? = some (.cells #[.int .i64 a2_0, .int .i64 a2_1, .int .i64 a2_2] 26 (0, 0))) ∧ Aside0 (wc.heap[gb334]? = some (.cells #[.int .i64 t330, .int .i64 t331, .int .i64 t332] 31 (0, 0))) ∧ Aside0 (wc.heap[gb340]? = some (.cells #[.int .i64 t335, .int .i64 t336, (.slice Ao49 t337.length co49)] 29 (0, 0))) ∧ Aside0 (wc.heap[gb351]? = some (.cells #[.int .i64 t347, .int .i64 t348, .int .i64 t349] 31 (0, 0))) ∧ Aside0 (Below w.heap.size w wc))
   case first =>
    have H := HC21.out
    clear HC21
    replace H := Option.bind_eq_some_iff.mp H
    obtain ⟨t352, A600, H⟩ := H
    replace H : (if t352 = true then (laws_FnExactComposeMotions.j0 k (t350 != t333) a0_0 a0_1 l0_2 t335 t336 t337) else (laws_FnExactComposeMotions.j0 k true a0_0 a0_1 l0_2 t335 t336 t337)) = some r := H
    have A60 := mkA A600
    clear A600
    by_cases c61 : t352 = true
    · subst c61
      have H1 : (laws_FnExactComposeMotions.j0 k (t350 != t333) a0_0 a0_1 l0_2 t335 t336 t337) = some r := by rw [if_pos rfl] at H; exact H
      clear H
      have H := H1
      clear H1
      have H' := mkA H
      clear H
      have hnb62 := NB351_315.out
      have hnc62 := NB315_351.out
      have hnb63 := NB351_316.out
      have hnc63 := NB316_351.out
      have hnb64 := NB351_317.out
      have hnc64 := NB317_351.out
      have hnb65 := NB351_334.out
      have hnc65 := NB334_351.out
      have hnb66 := NB351_340.out
      have hnc66 := NB340_351.out
      have hcz67_0 : w56.cell? ⟨gb351, 0, none⟩ = some (.int .i64 0) := (blk_cell BK351.out 0).trans rfl
      have hcz67_1 : w56.cell? ⟨gb351, 1, none⟩ = some (.int .i64 0) := (blk_cell BK351.out 1).trans rfl
      have hcz67_2 : w56.cell? ⟨gb351, 2, none⟩ = some (.int .i64 0) := (blk_cell BK351.out 2).trans rfl
      have hfz67_0 := blk_frozen BK351.out 0
      have hfz67_1 := blk_frozen BK351.out 1
      have hfz67_2 := blk_frozen BK351.out 2
      have hnb68 := NB334_315.out
      have hnc68 := NB315_334.out
      have hnb69 := NB334_316.out
      have hnc69 := NB316_334.out
      have hnb70 := NB334_317.out
      have hnc70 := NB317_334.out
      have hnb71 := NB334_340.out
      have hnc71 := NB340_334.out
      have hcz72_0 : w56.cell? ⟨gb334, 0, none⟩ = some (.int .i64 t330) := (blk_cell BK334.out 0).trans rfl
      have hcz72_1 : w56.cell? ⟨gb334, 1, none⟩ = some (.int .i64 t331) := (blk_cell BK334.out 1).trans rfl
      have hcz72_2 : w56.cell? ⟨gb334, 2, none⟩ = some (.int .i64 t332) := (blk_cell BK334.out 2).trans rfl
      have hfz72_0 := blk_frozen BK334.out 0
      have hfz72_1 := blk_frozen BK334.out 1
      have hfz72_2 := blk_frozen BK334.out 2
      go_wp2_with (first | ((with_reducible refine gate_callee (f := 34) rfl ?_); refine goesL_ (some 41) rfl rfl Try.func34 (by kernel_rfl) rfl #[.agg #[.int .i64 t347, .int .i64 t348, .int .i64 t349], .agg #[.int .i64 t330, .int .i64 t331, .int .i64 t332]] rfl (by (try simp only [List.map_toArray, List.map_cons, List.map_nil]); first | done | rfl | (simp only [List.length_drop, List.length_take]; rfl)) ?_; (with_reducible refine (laws_eqMotion.calls t347 t348 t349 t330 t331 t332 true _ A60.out).mono ?_); rintro e w73 ⟨rfl, hb⟩; refine ⟨_, rfl, ?_⟩; have n0_ := mkA (Kd.R_below (by (with_reducible repeat (first | apply Kd.R_alloc | apply Kd.R_drewN | apply Kd.R_drew)); exact (Kd.R_mono (Kd.R_far (p := ⟨gb351, 2, none⟩) (Kd.R_far (p := ⟨gb351, 1, none⟩) (Kd.R_far (p := ⟨gb351, 0, none⟩) (Kd.R_types HO323.out BK351.out (by decide)) (fun _ hk => hk.2) (.int .i64 t347)) (fun _ hk => hk.2) (.int .i64 t348)) (fun _ hk => hk.2) (.int .i64 t349)) (fun _ h_ => h_.1))) hb); have n1_ := mkA (Kd.R_below (by (with_reducible repeat (first | apply Kd.R_alloc | apply Kd.R_drewN | apply Kd.R_drew)); exact (Kd.R_mono (Kd.R_far (p := ⟨gb351, 2, none⟩) (Kd.R_far (p := ⟨gb351, 1, none⟩) (Kd.R_far (p := ⟨gb351, 0, none⟩) (Kd.R_types HO339.out BK351.out (by decide)) (fun _ hk => hk.2) (.int .i64 t347)) (fun _ hk => hk.2) (.int .i64 t348)) (fun _ hk => hk.2) (.int .i64 t349)) (fun _ h_ => h_.1))) hb); have n2_ := mkA (blk_below (g := gb315) (o := .cells #[.int .i64 a0_0, .int .i64 a0_1, .slice A0_2 l0_2.length c0_2] 24 (0, 0)) (by (with_reducible repeat (first | refine blk_drewN ?_ _ | refine blk_drew ?_ | refine blk_alloc ?_ _)); refine blk_far ?_ NB315_351.out _; (with_reducible repeat (first | refine blk_drewN ?_ _ | refine blk_drew ?_ | refine blk_alloc ?_ _)); refine blk_far ?_ NB315_351.out _; (with_reducible repeat (first | refine blk_drewN ?_ _ | refine blk_drew ?_ | refine blk_alloc ?_ _)); refine blk_far ?_ NB315_351.out _; (with_reducible repeat (first | refine blk_drewN ?_ _ | refine blk_drew ?_ | refine blk_alloc ?_ _)); exact BK315.out) hb); have n3_ := mkA (blk_below (g := gb316) (o := .cells #[.int .i64 a1_0, .int .i64 a1_1, .int .i64 a1_2] 26 (0, 0)) (by (with_reducible repeat (first | refine blk_drewN ?_ _ | refine blk_drew ?_ | refine blk_alloc ?_ _)); refine blk_far ?_ NB316_351.out _; (with_reducible repeat (first | refine blk_drewN ?_ _ | refine blk_drew ?_ | refine blk_alloc ?_ _)); refine blk_far ?_ NB316_351.out _; (with_reducible repeat (first | refine blk_drewN ?_ _ | refine blk_drew ?_ | refine blk_alloc ?_ _)); refine blk_far ?_ NB316_351.out _; (with_reducible repeat (first | refine blk_drewN ?_ _ | refine blk_drew ?_ | refine blk_alloc ?_ _)); exact BK316.out) hb); have n4_ := mkA (blk_below (g := gb317) (o := .cells #[.int .i64 a2_0, .int .i64 a2_1, .int .i64 a2_2] 26 (0, 0)) (by (with_reducible repeat (first | refine blk_drewN ?_ _ | refine blk_drew ?_ | refine blk_alloc ?_ _)); refine blk_far ?_ NB317_351.out _; (with_reducible repeat (first | refine blk_drewN ?_ _ | refine blk_drew ?_ | refine blk_alloc ?_ _)); refine blk_far ?_ NB317_351.out _; (with_reducible repeat (first | refine blk_drewN ?_ _ | refine blk_drew ?_ | refine blk_alloc ?_ _)); refine blk_far ?_ NB317_351.out _; (with_reducible repeat (first | refine blk_drewN ?_ _ | refine blk_drew ?_ | refine blk_alloc ?_ _)); exact BK317.out) hb); have n5_ := mkA (blk_below (g := gb334) (o := .cells #[.int .i64 t330, .int .i64 t331, .int .i64 t332] 31 (0, 0)) (by (with_reducible repeat (first | refine blk_drewN ?_ _ | refine blk_drew ?_ | refine blk_alloc ?_ _)); refine blk_far ?_ NB334_351.out _; (with_reducible repeat (first | refine blk_drewN ?_ _ | refine blk_drew ?_ | refine blk_alloc ?_ _)); refine blk_far ?_ NB334_351.out _; (with_reducible repeat (first | refine blk_drewN ?_ _ | refine blk_drew ?_ | refine blk_alloc ?_ _)); refine blk_far ?_ NB334_351.out _; (with_reducible repeat (first | refine blk_drewN ?_ _ | refine blk_drew ?_ | refine blk_alloc ?_ _)); exact BK334.out) hb); have n6_ := mkA (blk_below (g := gb340) (o := .cells #[.int .i64 t335, .int .i64 t336, .slice Ao49 t337.length co49] 29 (0, 0)) (by (with_reducible repeat (first | refine blk_drewN ?_ _ | refine blk_drew ?_ | refine blk_alloc ?_ _)); refine blk_far ?_ NB340_351.out _; (with_reducible repeat (first | refine blk_drewN ?_ _ | refine blk_drew ?_ | refine blk_alloc ?_ _)); refine blk_far ?_ NB340_351.out _; (with_reducible repeat (first | refine blk_drewN ?_ _ | refine blk_drew ?_ | refine blk_alloc ?_ _)); refine blk_far ?_ NB340_351.out _; (with_reducible repeat (first | refine blk_drewN ?_ _ | refine blk_drew ?_ | refine blk_alloc ?_ _)); exact BK340.out) hb); have n7_ := mkA (blk_below (g := gb351) (o := .cells #[.int .i64 t347, .int .i64 t348, .int .i64 t349] 31 (0, 0)) (by (with_reducible repeat (first | refine blk_drewN ?_ _ | refine blk_drew ?_ | refine blk_alloc ?_ _)); refine blk_put (cs := #[.int .i64 t347, .int .i64 t348, .int .i64 0]) ?_ 2 _ rfl; (with_reducible repeat (first | refine blk_drewN ?_ _ | refine blk_drew ?_ | refine blk_alloc ?_ _)); refine blk_put (cs := #[.int .i64 t347, .int .i64 0, .int .i64 0]) ?_ 1 _ rfl; (with_reducible repeat (first | refine blk_drewN ?_ _ | refine blk_drew ?_ | refine blk_alloc ?_ _)); refine blk_put (cs := #[.int .i64 0, .int .i64 0, .int .i64 0]) ?_ 0 _ rfl; (with_reducible repeat (first | refine blk_drewN ?_ _ | refine blk_drew ?_ | refine blk_alloc ?_ _)); exact BK351.out) hb); have n8_ := mkA (below_step (bs6_ HB.out GE315.out GE316.out GE317.out GE334.out GE340.out GE351.out) hb); clear HO323; clear HO339; clear BK315; clear BK316; clear BK317; clear BK334; clear BK340; clear BK351; clear HB; have HO323 := n0_; have HO339 := n1_; have BK315 := n2_; have BK316 := n3_; have BK317 := n4_; have BK334 := n5_; have BK340 := n6_; have BK351 := n7_; have HB := n8_; clear n0_ n1_ n2_ n3_ n4_ n5_ n6_ n7_ n8_; (try clear hb); (try clear hb2); (try clear hk); (try clear hi)))
      go_meet
      case rel => exact ⟨_, ((t350 != t333)), (by first | rfl | (simp; done) | (simp [*]; done) | (simp [i64_w, i32_w]; done)), H', ⟨by first | omega | exact Nat.le_refl _⟩, ⟨by (with_reducible repeat (first | apply Kd.R_alloc | apply Kd.R_drewN | apply Kd.R_drew)); exact Kd.R_mono HO339.out (fun _ hk => trivial)⟩, ⟨by (with_reducible repeat (first | refine blk_drewN ?_ _ | refine blk_drew ?_ | refine blk_alloc ?_ _)); exact BK315.out⟩, ⟨by (with_reducible repeat (first | refine blk_drewN ?_ _ | refine blk_drew ?_ | refine blk_alloc ?_ _)); exact BK316.out⟩, ⟨by (with_reducible repeat (first | refine blk_drewN ?_ _ | refine blk_drew ?_ | refine blk_alloc ?_ _)); exact BK317.out⟩, ⟨by (with_reducible repeat (first | refine blk_drewN ?_ _ | refine blk_drew ?_ | refine blk_alloc ?_ _)); exact BK334.out⟩, ⟨by (with_reducible repeat (first | refine blk_drewN ?_ _ | refine blk_drew ?_ | refine blk_alloc ?_ _)); exact BK340.out⟩, ⟨by (with_reducible repeat (first | refine blk_drewN ?_ _ | refine blk_drew ?_ | refine blk_alloc ?_ _)); exact BK351.out⟩, ⟨by repeat (first | (with_reducible first | exact HB.out | apply below_alloc | apply pw_below_drewN | apply below_drew1 | refine below_set ?_ GE315.out | refine below_set ?_ GE316.out | refine below_set ?_ GE317.out | refine below_set ?_ GE334.out | refine below_set ?_ GE340.out | refine below_set ?_ GE351.out) | exact HB.out)⟩⟩
    · replace c61 := Bool.eq_false_iff.mpr c61
      subst c61
      have H1 : (laws_FnExactComposeMotions.j0 k true a0_0 a0_1 l0_2 t335 t336 t337) = some r := by rw [if_neg (show ¬ (false = true) by decide)] at H; exact H
      clear H
      have H := H1
      clear H1
      have H' := mkA H
      clear H
      have hnb74 := NB351_315.out
      have hnc74 := NB315_351.out
      have hnb75 := NB351_316.out
      have hnc75 := NB316_351.out
      have hnb76 := NB351_317.out
      have hnc76 := NB317_351.out
      have hnb77 := NB351_334.out
      have hnc77 := NB334_351.out
      have hnb78 := NB351_340.out
      have hnc78 := NB340_351.out
      have hcz79_0 : w56.cell? ⟨gb351, 0, none⟩ = some (.int .i64 0) := (blk_cell BK351.out 0).trans rfl
      have hcz79_1 : w56.cell? ⟨gb351, 1, none⟩ = some (.int .i64 0) := (blk_cell BK351.out 1).trans rfl
      have hcz79_2 : w56.cell? ⟨gb351, 2, none⟩ = some (.int .i64 0) := (blk_cell BK351.out 2).trans rfl
      have hfz79_0 := blk_frozen BK351.out 0
      have hfz79_1 := blk_frozen BK351.out 1
      have hfz79_2 := blk_frozen BK351.out 2
      have hnb80 := NB334_315.out
      have hnc80 := NB315_334.out
      have hnb81 := NB334_316.out
      have hnc81 := NB316_334.out
      have hnb82 := NB334_317.out
      have hnc82 := NB317_334.out
      have hnb83 := NB334_340.out
      have hnc83 := NB340_334.out
      have hcz84_0 : w56.cell? ⟨gb334, 0, none⟩ = some (.int .i64 t330) := (blk_cell BK334.out 0).trans rfl
      have hcz84_1 : w56.cell? ⟨gb334, 1, none⟩ = some (.int .i64 t331) := (blk_cell BK334.out 1).trans rfl
      have hcz84_2 : w56.cell? ⟨gb334, 2, none⟩ = some (.int .i64 t332) := (blk_cell BK334.out 2).trans rfl
      have hfz84_0 := blk_frozen BK334.out 0
      have hfz84_1 := blk_frozen BK334.out 1
      have hfz84_2 := blk_frozen BK334.out 2
      go_wp2_with (first | ((with_reducible refine gate_callee (f := 34) rfl ?_); refine goesL_ (some 41) rfl rfl Try.func34 (by kernel_rfl) rfl #[.agg #[.int .i64 t347, .int .i64 t348, .int .i64 t349], .agg #[.int .i64 t330, .int .i64 t331, .int .i64 t332]] rfl (by (try simp only [List.map_toArray, List.map_cons, List.map_nil]); first | done | rfl | (simp only [List.length_drop, List.length_take]; rfl)) ?_; (with_reducible refine (laws_eqMotion.calls t347 t348 t349 t330 t331 t332 false _ A60.out).mono ?_); rintro e w85 ⟨rfl, hb⟩; refine ⟨_, rfl, ?_⟩; have n0_ := mkA (Kd.R_below (by (with_reducible repeat (first | apply Kd.R_alloc | apply Kd.R_drewN | apply Kd.R_drew)); exact (Kd.R_mono (Kd.R_far (p := ⟨gb351, 2, none⟩) (Kd.R_far (p := ⟨gb351, 1, none⟩) (Kd.R_far (p := ⟨gb351, 0, none⟩) (Kd.R_types HO323.out BK351.out (by decide)) (fun _ hk => hk.2) (.int .i64 t347)) (fun _ hk => hk.2) (.int .i64 t348)) (fun _ hk => hk.2) (.int .i64 t349)) (fun _ h_ => h_.1))) hb); have n1_ := mkA (Kd.R_below (by (with_reducible repeat (first | apply Kd.R_alloc | apply Kd.R_drewN | apply Kd.R_drew)); exact (Kd.R_mono (Kd.R_far (p := ⟨gb351, 2, none⟩) (Kd.R_far (p := ⟨gb351, 1, none⟩) (Kd.R_far (p := ⟨gb351, 0, none⟩) (Kd.R_types HO339.out BK351.out (by decide)) (fun _ hk => hk.2) (.int .i64 t347)) (fun _ hk => hk.2) (.int .i64 t348)) (fun _ hk => hk.2) (.int .i64 t349)) (fun _ h_ => h_.1))) hb); have n2_ := mkA (blk_below (g := gb315) (o := .cells #[.int .i64 a0_0, .int .i64 a0_1, .slice A0_2 l0_2.length c0_2] 24 (0, 0)) (by (with_reducible repeat (first | refine blk_drewN ?_ _ | refine blk_drew ?_ | refine blk_alloc ?_ _)); refine blk_far ?_ NB315_351.out _; (with_reducible repeat (first | refine blk_drewN ?_ _ | refine blk_drew ?_ | refine blk_alloc ?_ _)); refine blk_far ?_ NB315_351.out _; (with_reducible repeat (first | refine blk_drewN ?_ _ | refine blk_drew ?_ | refine blk_alloc ?_ _)); refine blk_far ?_ NB315_351.out _; (with_reducible repeat (first | refine blk_drewN ?_ _ | refine blk_drew ?_ | refine blk_alloc ?_ _)); exact BK315.out) hb); have n3_ := mkA (blk_below (g := gb316) (o := .cells #[.int .i64 a1_0, .int .i64 a1_1, .int .i64 a1_2] 26 (0, 0)) (by (with_reducible repeat (first | refine blk_drewN ?_ _ | refine blk_drew ?_ | refine blk_alloc ?_ _)); refine blk_far ?_ NB316_351.out _; (with_reducible repeat (first | refine blk_drewN ?_ _ | refine blk_drew ?_ | refine blk_alloc ?_ _)); refine blk_far ?_ NB316_351.out _; (with_reducible repeat (first | refine blk_drewN ?_ _ | refine blk_drew ?_ | refine blk_alloc ?_ _)); refine blk_far ?_ NB316_351.out _; (with_reducible repeat (first | refine blk_drewN ?_ _ | refine blk_drew ?_ | refine blk_alloc ?_ _)); exact BK316.out) hb); have n4_ := mkA (blk_below (g := gb317) (o := .cells #[.int .i64 a2_0, .int .i64 a2_1, .int .i64 a2_2] 26 (0, 0)) (by (with_reducible repeat (first | refine blk_drewN ?_ _ | refine blk_drew ?_ | refine blk_alloc ?_ _)); refine blk_far ?_ NB317_351.out _; (with_reducible repeat (first | refine blk_drewN ?_ _ | refine blk_drew ?_ | refine blk_alloc ?_ _)); refine blk_far ?_ NB317_351.out _; (with_reducible repeat (first | refine blk_drewN ?_ _ | refine blk_drew ?_ | refine blk_alloc ?_ _)); refine blk_far ?_ NB317_351.out _; (with_reducible repeat (first | refine blk_drewN ?_ _ | refine blk_drew ?_ | refine blk_alloc ?_ _)); exact BK317.out) hb); have n5_ := mkA (blk_below (g := gb334) (o := .cells #[.int .i64 t330, .int .i64 t331, .int .i64 t332] 31 (0, 0)) (by (with_reducible repeat (first | refine blk_drewN ?_ _ | refine blk_drew ?_ | refine blk_alloc ?_ _)); refine blk_far ?_ NB334_351.out _; (with_reducible repeat (first | refine blk_drewN ?_ _ | refine blk_drew ?_ | refine blk_alloc ?_ _)); refine blk_far ?_ NB334_351.out _; (with_reducible repeat (first | refine blk_drewN ?_ _ | refine blk_drew ?_ | refine blk_alloc ?_ _)); refine blk_far ?_ NB334_351.out _; (with_reducible repeat (first | refine blk_drewN ?_ _ | refine blk_drew ?_ | refine blk_alloc ?_ _)); exact BK334.out) hb); have n6_ := mkA (blk_below (g := gb340) (o := .cells #[.int .i64 t335, .int .i64 t336, .slice Ao49 t337.length co49] 29 (0, 0)) (by (with_reducible repeat (first | refine blk_drewN ?_ _ | refine blk_drew ?_ | refine blk_alloc ?_ _)); refine blk_far ?_ NB340_351.out _; (with_reducible repeat (first | refine blk_drewN ?_ _ | refine blk_drew ?_ | refine blk_alloc ?_ _)); refine blk_far ?_ NB340_351.out _; (with_reducible repeat (first | refine blk_drewN ?_ _ | refine blk_drew ?_ | refine blk_alloc ?_ _)); refine blk_far ?_ NB340_351.out _; (with_reducible repeat (first | refine blk_drewN ?_ _ | refine blk_drew ?_ | refine blk_alloc ?_ _)); exact BK340.out) hb); have n7_ := mkA (blk_below (g := gb351) (o := .cells #[.int .i64 t347, .int .i64 t348, .int .i64 t349] 31 (0, 0)) (by (with_reducible repeat (first | refine blk_drewN ?_ _ | refine blk_drew ?_ | refine blk_alloc ?_ _)); refine blk_put (cs := #[.int .i64 t347, .int .i64 t348, .int .i64 0]) ?_ 2 _ rfl; (with_reducible repeat (first | refine blk_drewN ?_ _ | refine blk_drew ?_ | refine blk_alloc ?_ _)); refine blk_put (cs := #[.int .i64 t347, .int .i64 0, .int .i64 0]) ?_ 1 _ rfl; (with_reducible repeat (first | refine blk_drewN ?_ _ | refine blk_drew ?_ | refine blk_alloc ?_ _)); refine blk_put (cs := #[.int .i64 0, .int .i64 0, .int .i64 0]) ?_ 0 _ rfl; (with_reducible repeat (first | refine blk_drewN ?_ _ | refine blk_drew ?_ | refine blk_alloc ?_ _)); exact BK351.out) hb); have n8_ := mkA (below_step (bs6_ HB.out GE315.out GE316.out GE317.out GE334.out GE340.out GE351.out) hb); clear HO323; clear HO339; clear BK315; clear BK316; clear BK317; clear BK334; clear BK340; clear BK351; clear HB; have HO323 := n0_; have HO339 := n1_; have BK315 := n2_; have BK316 := n3_; have BK317 := n4_; have BK334 := n5_; have BK340 := n6_; have BK351 := n7_; have HB := n8_; clear n0_ n1_ n2_ n3_ n4_ n5_ n6_ n7_ n8_; (try clear hb); (try clear hb2); (try clear hk); (try clear hi)))
      go_meet
      case rel => exact ⟨_, (true), (by first | rfl | (simp; done) | (simp [*]; done) | (simp [i64_w, i32_w]; done)), H', ⟨by first | omega | exact Nat.le_refl _⟩, ⟨by (with_reducible repeat (first | apply Kd.R_alloc | apply Kd.R_drewN | apply Kd.R_drew)); exact Kd.R_mono HO339.out (fun _ hk => trivial)⟩, ⟨by (with_reducible repeat (first | refine blk_drewN ?_ _ | refine blk_drew ?_ | refine blk_alloc ?_ _)); exact BK315.out⟩, ⟨by (with_reducible repeat (first | refine blk_drewN ?_ _ | refine blk_drew ?_ | refine blk_alloc ?_ _)); exact BK316.out⟩, ⟨by (with_reducible repeat (first | refine blk_drewN ?_ _ | refine blk_drew ?_ | refine blk_alloc ?_ _)); exact BK317.out⟩, ⟨by (with_reducible repeat (first | refine blk_drewN ?_ _ | refine blk_drew ?_ | refine blk_alloc ?_ _)); exact BK334.out⟩, ⟨by (with_reducible repeat (first | refine blk_drewN ?_ _ | refine blk_drew ?_ | refine blk_alloc ?_ _)); exact BK340.out⟩, ⟨by (with_reducible repeat (first | refine blk_drewN ?_ _ | refine blk_drew ?_ | refine blk_alloc ?_ _)); exact BK351.out⟩, ⟨by repeat (first | (with_reducible first | exact HB.out | apply below_alloc | apply pw_below_drewN | apply below_drew1 | refine below_set ?_ GE315.out | refine below_set ?_ GE316.out | refine below_set ?_ GE317.out | refine below_set ?_ GE334.out | refine below_set ?_ GE340.out | refine below_set ?_ GE351.out) | exact HB.out)⟩⟩
   case rest =>
    clear HC21
    try clear c1
    try clear p2
    try clear c3
    try clear c6
    try clear c7
    try clear c8
    try clear c18
    try clear c34
    try clear c38
    try clear c61
    try clear c62
    try clear c63
    try clear c64
    try clear c65
    try clear c66
    try clear c68
    try clear c69
    try clear c70
    try clear c71
    try clear c74
    try clear c75
    try clear c76
    try clear c77
    try clear c78
    try clear c80
    try clear c81
    try clear c82
    try clear c83
    try clear hcz67_0
    try clear hcz67_1
    try clear hcz67_2
    try clear hcz72_0
    try clear hcz72_1
    try clear hcz72_2
    try clear hcz79_0
    try clear hcz79_1
    try clear hcz79_2
    try clear hcz84_0
    try clear hcz84_1
    try clear hcz84_2
    try clear hfz67_0
    try clear hfz67_1
    try clear hfz67_2
    try clear hfz72_0
    try clear hfz72_1
    try clear hfz72_2
    try clear hfz79_0
    try clear hfz79_1
    try clear hfz79_2
    try clear hfz84_0
    try clear hfz84_1
    try clear hfz84_2
    obtain ⟨kq, x47_20, rfl, HA, HJ20, HO_341002, BK315, BK316, BK317, BK334, BK340, BK351, HB⟩ := hcut
    cases kq with
    | zero => exact absurd HA.out (by simp [laws_FnExactComposeMotions.j0])
    | succ kj20 =>
     have H := HA.out
     clear HA
     simp only [laws_FnExactComposeMotions.j0] at H
     by_cases c86 : x47_20 = true
     · subst c86
       have H1 : (some false) = some r := by rw [if_pos rfl] at H; exact H
       clear H
       have H := H1
       clear H1
       obtain rfl := Option.some.inj H
       go_wp2
       go_ret
       exact ⟨by first | rfl | (simp [errW_none, errW_some] <;> rfl) | (simp [*, errW_none, errW_some] <;> rfl), by repeat (first | (with_reducible first | exact HB.out | apply below_alloc | apply pw_below_drewN | apply below_drew1 | refine below_set ?_ GE315.out | refine below_set ?_ GE316.out | refine below_set ?_ GE317.out | refine below_set ?_ GE334.out | refine below_set ?_ GE340.out | refine below_set ?_ GE351.out) | exact HB.out)⟩
     · replace c86 := Bool.eq_false_iff.mpr c86
       subst c86
       have H1 : ((laws_toTiling.f kj20 a0_0 a0_1 l0_2).bind fun bt353 => ((laws_eqTiling.f kj20 t335 t336 t337 bt353.1 bt353.2.1 bt353.2.2).bind fun t358 => (if t358 = true then (some true) else (some false)))) = some r := by rw [if_neg (show ¬ (false = true) by decide)] at H; exact H
       clear H
       have H := H1
       clear H1
       replace H := Option.bind_eq_some_iff.mp H
       obtain ⟨⟨t353, t354, t355⟩, A870, H⟩ := H
       replace H : ((laws_eqTiling.f kj20 t335 t336 t337 t353 t354 t355).bind fun t358 => (if t358 = true then (some true) else (some false))) = some r := H
       have A87 := mkA A870
       clear A870
       replace H := Option.bind_eq_some_iff.mp H
       obtain ⟨t358, A880, H⟩ := H
       replace H : (if t358 = true then (some true) else (some false)) = some r := H
       have A88 := mkA A880
       clear A880
       by_cases c89 : t358 = true
       · subst c89
         have H1 : (some true) = some r := by rw [if_pos rfl] at H; exact H
         clear H
         have H := H1
         clear H1
         obtain rfl := Option.some.inj H
         try go_wp2
         have n0_ := mkA (Kd.R_drew HO_341002.out)
         have n1_ := mkA (blk_drew BK315.out)
         have n2_ := mkA (blk_drew BK316.out)
         have n3_ := mkA (blk_drew BK317.out)
         have n4_ := mkA (blk_drew BK334.out)
         have n5_ := mkA (blk_drew BK340.out)
         have n6_ := mkA (blk_drew BK351.out)
         have n7_ := mkA (below_drew1 HB.out)
         clear HO_341002
         clear BK315
         clear BK316
         clear BK317
         clear BK334
         clear BK340
         clear BK351
         clear HB
         have HO_341002 := n0_
         have BK315 := n1_
         have BK316 := n2_
         have BK317 := n3_
         have BK334 := n4_
         have BK340 := n5_
         have BK351 := n6_
         have HB := n7_
         clear n0_ n1_ n2_ n3_ n4_ n5_ n6_ n7_
         refine start_ (n := 5) (S := fun w' => w'.cell? ⟨gb340, 0, none⟩ = some (.int .i64 t335) ∧ w'.cell? ⟨gb340, 1, none⟩ = some (.int .i64 t336) ∧ w'.cell? ⟨gb340, 2, none⟩ = some (.slice Ao49 t337.length co49) ∧ w'.cell? ⟨gb315, 0, none⟩ = some (.int .i64 a0_0) ∧ w'.cell? ⟨gb315, 1, none⟩ = some (.int .i64 a0_1) ∧ w'.cell? ⟨gb315, 2, none⟩ = some (.slice A0_2 l0_2.length c0_2)) (ds := []) #[false, false, false, false, false] (by kernel_rfl) rfl rfl ⟨(blk_cell BK340.out 0).trans rfl, (blk_cell BK340.out 1).trans rfl, (blk_cell BK340.out 2).trans rfl, (blk_cell BK315.out 0).trans rfl, (blk_cell BK315.out 1).trans rfl, (blk_cell BK315.out 2).trans rfl⟩ (fun hHeld => ?_)
         generalize wc.drew = w90 at HO_341002 BK315 BK316 BK317 BK334 BK340 BK351 HB hHeld ⊢
         refine take_ (i := 0) (N := some 48) (v := ?_) (a' := ?_) #[true, false, false, false, false] rfl rfl (by kernel_rfl) (fun _ _ _ h => h) (Or.inl ⟨by rfl, ?_⟩) hHeld ?_ ?_
         rotate_left
         · rintro w' ⟨s0, s1, s2, s3, s4, s5⟩
           go_simp
           with_reducible rfl
         rotate_left
         · simp only [Act.put, sA, sB, sC, i64_w, i32_w]
           rfl
         refine take_ (i := 1) (N := some 49) (v := ?_) (a' := ?_) #[true, true, false, false, false] rfl rfl (by kernel_rfl) (fun _ _ _ h => h) (Or.inl ⟨by rfl, ?_⟩) hHeld ?_ ?_
         rotate_left
         · rintro w' ⟨s0, s1, s2, s3, s4, s5⟩
           go_simp
           with_reducible rfl
         rotate_left
         · simp only [Act.put, sA, sB, sC, i64_w, i32_w]
           rfl
         refine one_ (i := 2) (N := some 50) #[true, true, true, false, false] rfl rfl (by kernel_rfl) (by decide) (fun K hK => ?_)
         refine goes_ Try.func17 (by kernel_rfl) rfl #[.agg #[.int .i64 a0_0, .int .i64 a0_1, .slice A0_2 l0_2.length c0_2]] (by rfl) rfl rfl (by (try simp only [List.map_toArray, List.map_cons, List.map_nil]); first | done | rfl | (simp only [List.length_drop, List.length_take]; rfl)) ?_
         with_reducible refine (laws_toTiling.calls kj20 a0_0 a0_1 _ _ l0_2 t353 t354 t355 _ ?side1 ?side2 A87.out).mono ?_
         (case side1 => exact cb_ HR0_2.out HB.out)
         (case side2 => exact HC0_2.out)
         rintro e w91 ⟨v356, rfl, ho0, hb⟩
         refine ⟨_, rfl, ?_⟩
         have n0_ := mkA (Kd.R_elder' (by (with_reducible repeat (first | apply Kd.R_alloc | apply Kd.R_drewN | apply Kd.R_drew)); exact HO_341002.out) (Kd.R_base ho0) hb)
         have n1_ := mkA (Kd.R_lower (Kd.R_new' ho0 (Kd.R_lt (by (with_reducible repeat (first | apply Kd.R_alloc | apply Kd.R_drewN | apply Kd.R_drew)); exact HO_341002.out))) (below_size (bs6_ HB.out GE315.out GE316.out GE317.out GE334.out GE340.out GE351.out)))
         have n2_ := mkA (blk_below (g := gb315) (o := .cells #[.int .i64 a0_0, .int .i64 a0_1, .slice A0_2 l0_2.length c0_2] 24 (0, 0)) (bl_ BK315.out) hb)
         have n3_ := mkA (blk_below (g := gb316) (o := .cells #[.int .i64 a1_0, .int .i64 a1_1, .int .i64 a1_2] 26 (0, 0)) (bl_ BK316.out) hb)
         have n4_ := mkA (blk_below (g := gb317) (o := .cells #[.int .i64 a2_0, .int .i64 a2_1, .int .i64 a2_2] 26 (0, 0)) (bl_ BK317.out) hb)
         have n5_ := mkA (blk_below (g := gb334) (o := .cells #[.int .i64 t330, .int .i64 t331, .int .i64 t332] 31 (0, 0)) (bl_ BK334.out) hb)
         have n6_ := mkA (blk_below (g := gb340) (o := .cells #[.int .i64 t335, .int .i64 t336, .slice Ao49 t337.length co49] 29 (0, 0)) (bl_ BK340.out) hb)
         have n7_ := mkA (blk_below (g := gb351) (o := .cells #[.int .i64 t347, .int .i64 t348, .int .i64 t349] 31 (0, 0)) (bl_ BK351.out) hb)
         have n8_ := mkA (below_step (bs6_ HB.out GE315.out GE316.out GE317.out GE334.out GE340.out GE351.out) hb)
         clear HO_341002
         clear BK315
         clear BK316
         clear BK317
         clear BK334
         clear BK340
         clear BK351
         clear HB
         have HO_341002 := n0_
         have HO357 := n1_
         have BK315 := n2_
         have BK316 := n3_
         have BK317 := n4_
         have BK334 := n5_
         have BK340 := n6_
         have BK351 := n7_
         have HB := n8_
         clear n0_ n1_ n2_ n3_ n4_ n5_ n6_ n7_ n8_
         (try clear hb)
         (try clear hb2)
         (try clear hk)
         (try clear hi)
         (try clear ho0)
         obtain ⟨Ao92, co92, eo92⟩ := Kd.R_slice HO357.out
         (first | subst eo92 | (injection eo92 with f1_ f2_ f3_; have f4_ := f1_.symm; have f5_ := f3_.symm; clear f1_ f2_ f3_; subst f4_; subst f5_))
         refine hK.out _ _ ⟨(blk_cell BK340.out 0).trans rfl, (blk_cell BK340.out 1).trans rfl, (blk_cell BK340.out 2).trans rfl, (blk_cell BK315.out 0).trans rfl, (blk_cell BK315.out 1).trans rfl, (blk_cell BK315.out 2).trans rfl⟩ (fun hHeld => ?_)
         clear hK K
         refine norm_ (a' := ?_) ?_ ?_
         rotate_left
         · show Act.put _ (some 50) _ = _
           simp only [Act.put, sA, sB, sC, i64_w, i32_w]
           rfl
         refine one_ (i := 3) (N := some 51) #[true, true, true, true, false] rfl rfl (by kernel_rfl) (by decide) (fun K hK => ?_)
         refine goes_ Try.func20 (by kernel_rfl) rfl #[.agg #[.int .i64 t335, .int .i64 t336, .slice Ao49 t337.length co49], .agg #[.int .i64 t353, .int .i64 t354, .slice Ao92 t355.length co92]] (by rfl) rfl rfl (by (try simp only [List.map_toArray, List.map_cons, List.map_nil]); first | done | rfl | (simp only [List.length_drop, List.length_take]; rfl)) ?_
         with_reducible refine (laws_eqTiling.calls kj20 t335 t336 _ _ t337 t353 t354 _ _ t355 true _ ?side1 ?side2 ?side3 ?side4 A88.out).mono ?_
         (case side1 => repeat (first | exact (Kd.R_reads' HO_341002.out).2.2 | (with_reducible refine Kd.C_alloc ?_ _) | (with_reducible refine Kd.C_drewN ?_ _) | (with_reducible refine Kd.C_drew ?_)))
         (case side2 => exact (Kd.R_reads' HO_341002.out).2.1)
         (case side3 => repeat (first | exact (Kd.R_reads' HO357.out).2.2 | (with_reducible refine Kd.C_alloc ?_ _) | (with_reducible refine Kd.C_drewN ?_ _) | (with_reducible refine Kd.C_drew ?_)))
         (case side4 => exact (Kd.R_reads' HO357.out).2.1)
         rintro e w93 ⟨rfl, hb⟩
         refine ⟨_, rfl, ?_⟩
         have n0_ := mkA (Kd.R_below (by (with_reducible repeat (first | apply Kd.R_alloc | apply Kd.R_drewN | apply Kd.R_drew)); exact HO_341002.out) hb)
         have n1_ := mkA (Kd.R_below (by (with_reducible repeat (first | apply Kd.R_alloc | apply Kd.R_drewN | apply Kd.R_drew)); exact HO357.out) hb)
         have n2_ := mkA (blk_below (g := gb315) (o := .cells #[.int .i64 a0_0, .int .i64 a0_1, .slice A0_2 l0_2.length c0_2] 24 (0, 0)) (bl_ BK315.out) hb)
         have n3_ := mkA (blk_below (g := gb316) (o := .cells #[.int .i64 a1_0, .int .i64 a1_1, .int .i64 a1_2] 26 (0, 0)) (bl_ BK316.out) hb)
         have n4_ := mkA (blk_below (g := gb317) (o := .cells #[.int .i64 a2_0, .int .i64 a2_1, .int .i64 a2_2] 26 (0, 0)) (bl_ BK317.out) hb)
         have n5_ := mkA (blk_below (g := gb334) (o := .cells #[.int .i64 t330, .int .i64 t331, .int .i64 t332] 31 (0, 0)) (bl_ BK334.out) hb)
         have n6_ := mkA (blk_below (g := gb340) (o := .cells #[.int .i64 t335, .int .i64 t336, .slice Ao49 t337.length co49] 29 (0, 0)) (bl_ BK340.out) hb)
         have n7_ := mkA (blk_below (g := gb351) (o := .cells #[.int .i64 t347, .int .i64 t348, .int .i64 t349] 31 (0, 0)) (bl_ BK351.out) hb)
         have n8_ := mkA (below_step (bs6_ HB.out GE315.out GE316.out GE317.out GE334.out GE340.out GE351.out) hb)
         clear HO_341002
         clear HO357
         clear BK315
         clear BK316
         clear BK317
         clear BK334
         clear BK340
         clear BK351
         clear HB
         have HO_341002 := n0_
         have HO357 := n1_
         have BK315 := n2_
         have BK316 := n3_
         have BK317 := n4_
         have BK334 := n5_
         have BK340 := n6_
         have BK351 := n7_
         have HB := n8_
         clear n0_ n1_ n2_ n3_ n4_ n5_ n6_ n7_ n8_
         (try clear hb)
         (try clear hb2)
         (try clear hk)
         (try clear hi)
         refine hK.out _ _ ⟨(blk_cell BK340.out 0).trans rfl, (blk_cell BK340.out 1).trans rfl, (blk_cell BK340.out 2).trans rfl, (blk_cell BK315.out 0).trans rfl, (blk_cell BK315.out 1).trans rfl, (blk_cell BK315.out 2).trans rfl⟩ (fun hHeld => ?_)
         clear hK K
         refine norm_ (a' := ?_) ?_ ?_
         rotate_left
         · show Act.put _ (some 51) _ = _
           simp only [Act.put, sA, sB, sC, i64_w, i32_w]
           rfl
         refine pure_ (i := 4) (N := some 52) (v := ?_) (a' := ?_) #[true, true, true, true, true] rfl rfl (by kernel_rfl) (fun _ _ _ h => h) (Or.inl ⟨by rfl, ?_⟩) ?_ ?_
         rotate_left
         · intro w'
           go_simp
           with_reducible rfl
         rotate_left
         · simp only [Act.put, sA, sB, sC, i64_w, i32_w]
           rfl
         refine done_ (by kernel_rfl) ?_
         try go_wp2
         go_ret
         exact ⟨by first | rfl | (simp [errW_none, errW_some] <;> rfl) | (simp [*, errW_none, errW_some] <;> rfl), by repeat (first | (with_reducible first | exact HB.out | apply below_alloc | apply pw_below_drewN | apply below_drew1 | refine below_set ?_ GE315.out | refine below_set ?_ GE316.out | refine below_set ?_ GE317.out | refine below_set ?_ GE334.out | refine below_set ?_ GE340.out | refine below_set ?_ GE351.out) | exact HB.out)⟩
       · replace c89 := Bool.eq_false_iff.mpr c89
         subst c89
         have H1 : (some false) = some r := by rw [if_neg (show ¬ (false = true) by decide)] at H; exact H
         clear H
         have H := H1
         clear H1
         obtain rfl := Option.some.inj H
         try go_wp2
         have n0_ := mkA (Kd.R_drew HO_341002.out)
         have n1_ := mkA (blk_drew BK315.out)
         have n2_ := mkA (blk_drew BK316.out)
         have n3_ := mkA (blk_drew BK317.out)
         have n4_ := mkA (blk_drew BK334.out)
         have n5_ := mkA (blk_drew BK340.out)
         have n6_ := mkA (blk_drew BK351.out)
         have n7_ := mkA (below_drew1 HB.out)
         clear HO_341002
         clear BK315
         clear BK316
         clear BK317
         clear BK334
         clear BK340
         clear BK351
         clear HB
         have HO_341002 := n0_
         have BK315 := n1_
         have BK316 := n2_
         have BK317 := n3_
         have BK334 := n4_
         have BK340 := n5_
         have BK351 := n6_
         have HB := n7_
         clear n0_ n1_ n2_ n3_ n4_ n5_ n6_ n7_
         refine start_ (n := 5) (S := fun w' => w'.cell? ⟨gb340, 0, none⟩ = some (.int .i64 t335) ∧ w'.cell? ⟨gb340, 1, none⟩ = some (.int .i64 t336) ∧ w'.cell? ⟨gb340, 2, none⟩ = some (.slice Ao49 t337.length co49) ∧ w'.cell? ⟨gb315, 0, none⟩ = some (.int .i64 a0_0) ∧ w'.cell? ⟨gb315, 1, none⟩ = some (.int .i64 a0_1) ∧ w'.cell? ⟨gb315, 2, none⟩ = some (.slice A0_2 l0_2.length c0_2)) (ds := []) #[false, false, false, false, false] (by kernel_rfl) rfl rfl ⟨(blk_cell BK340.out 0).trans rfl, (blk_cell BK340.out 1).trans rfl, (blk_cell BK340.out 2).trans rfl, (blk_cell BK315.out 0).trans rfl, (blk_cell BK315.out 1).trans rfl, (blk_cell BK315.out 2).trans rfl⟩ (fun hHeld => ?_)
         generalize wc.drew = w94 at HO_341002 BK315 BK316 BK317 BK334 BK340 BK351 HB hHeld ⊢
         refine take_ (i := 0) (N := some 48) (v := ?_) (a' := ?_) #[true, false, false, false, false] rfl rfl (by kernel_rfl) (fun _ _ _ h => h) (Or.inl ⟨by rfl, ?_⟩) hHeld ?_ ?_
         rotate_left
         · rintro w' ⟨s0, s1, s2, s3, s4, s5⟩
           go_simp
           with_reducible rfl
         rotate_left
         · simp only [Act.put, sA, sB, sC, i64_w, i32_w]
           rfl
         refine take_ (i := 1) (N := some 49) (v := ?_) (a' := ?_) #[true, true, false, false, false] rfl rfl (by kernel_rfl) (fun _ _ _ h => h) (Or.inl ⟨by rfl, ?_⟩) hHeld ?_ ?_
         rotate_left
         · rintro w' ⟨s0, s1, s2, s3, s4, s5⟩
           go_simp
           with_reducible rfl
         rotate_left
         · simp only [Act.put, sA, sB, sC, i64_w, i32_w]
           rfl
         refine one_ (i := 2) (N := some 50) #[true, true, true, false, false] rfl rfl (by kernel_rfl) (by decide) (fun K hK => ?_)
         refine goes_ Try.func17 (by kernel_rfl) rfl #[.agg #[.int .i64 a0_0, .int .i64 a0_1, .slice A0_2 l0_2.length c0_2]] (by rfl) rfl rfl (by (try simp only [List.map_toArray, List.map_cons, List.map_nil]); first | done | rfl | (simp only [List.length_drop, List.length_take]; rfl)) ?_
         with_reducible refine (laws_toTiling.calls kj20 a0_0 a0_1 _ _ l0_2 t353 t354 t355 _ ?side1 ?side2 A87.out).mono ?_
         (case side1 => exact cb_ HR0_2.out HB.out)
         (case side2 => exact HC0_2.out)
         rintro e w95 ⟨v356, rfl, ho0, hb⟩
         refine ⟨_, rfl, ?_⟩
         have n0_ := mkA (Kd.R_elder' (by (with_reducible repeat (first | apply Kd.R_alloc | apply Kd.R_drewN | apply Kd.R_drew)); exact HO_341002.out) (Kd.R_base ho0) hb)
         have n1_ := mkA (Kd.R_lower (Kd.R_new' ho0 (Kd.R_lt (by (with_reducible repeat (first | apply Kd.R_alloc | apply Kd.R_drewN | apply Kd.R_drew)); exact HO_341002.out))) (below_size (bs6_ HB.out GE315.out GE316.out GE317.out GE334.out GE340.out GE351.out)))
         have n2_ := mkA (blk_below (g := gb315) (o := .cells #[.int .i64 a0_0, .int .i64 a0_1, .slice A0_2 l0_2.length c0_2] 24 (0, 0)) (bl_ BK315.out) hb)
         have n3_ := mkA (blk_below (g := gb316) (o := .cells #[.int .i64 a1_0, .int .i64 a1_1, .int .i64 a1_2] 26 (0, 0)) (bl_ BK316.out) hb)
         have n4_ := mkA (blk_below (g := gb317) (o := .cells #[.int .i64 a2_0, .int .i64 a2_1, .int .i64 a2_2] 26 (0, 0)) (bl_ BK317.out) hb)
         have n5_ := mkA (blk_below (g := gb334) (o := .cells #[.int .i64 t330, .int .i64 t331, .int .i64 t332] 31 (0, 0)) (bl_ BK334.out) hb)
         have n6_ := mkA (blk_below (g := gb340) (o := .cells #[.int .i64 t335, .int .i64 t336, .slice Ao49 t337.length co49] 29 (0, 0)) (bl_ BK340.out) hb)
         have n7_ := mkA (blk_below (g := gb351) (o := .cells #[.int .i64 t347, .int .i64 t348, .int .i64 t349] 31 (0, 0)) (bl_ BK351.out) hb)
         have n8_ := mkA (below_step (bs6_ HB.out GE315.out GE316.out GE317.out GE334.out GE340.out GE351.out) hb)
         clear HO_341002
         clear BK315
         clear BK316
         clear BK317
         clear BK334
         clear BK340
         clear BK351
         clear HB
         have HO_341002 := n0_
         have HO357 := n1_
         have BK315 := n2_
         have BK316 := n3_
         have BK317 := n4_
         have BK334 := n5_
         have BK340 := n6_
         have BK351 := n7_
         have HB := n8_
         clear n0_ n1_ n2_ n3_ n4_ n5_ n6_ n7_ n8_
         (try clear hb)
         (try clear hb2)
         (try clear hk)
         (try clear hi)
         (try clear ho0)
         obtain ⟨Ao96, co96, eo96⟩ := Kd.R_slice HO357.out
         (first | subst eo96 | (injection eo96 with f1_ f2_ f3_; have f4_ := f1_.symm; have f5_ := f3_.symm; clear f1_ f2_ f3_; subst f4_; subst f5_))
         refine hK.out _ _ ⟨(blk_cell BK340.out 0).trans rfl, (blk_cell BK340.out 1).trans rfl, (blk_cell BK340.out 2).trans rfl, (blk_cell BK315.out 0).trans rfl, (blk_cell BK315.out 1).trans rfl, (blk_cell BK315.out 2).trans rfl⟩ (fun hHeld => ?_)
         clear hK K
         refine norm_ (a' := ?_) ?_ ?_
         rotate_left
         · show Act.put _ (some 50) _ = _
           simp only [Act.put, sA, sB, sC, i64_w, i32_w]
           rfl
         refine one_ (i := 3) (N := some 51) #[true, true, true, true, false] rfl rfl (by kernel_rfl) (by decide) (fun K hK => ?_)
         refine goes_ Try.func20 (by kernel_rfl) rfl #[.agg #[.int .i64 t335, .int .i64 t336, .slice Ao49 t337.length co49], .agg #[.int .i64 t353, .int .i64 t354, .slice Ao96 t355.length co96]] (by rfl) rfl rfl (by (try simp only [List.map_toArray, List.map_cons, List.map_nil]); first | done | rfl | (simp only [List.length_drop, List.length_take]; rfl)) ?_
         with_reducible refine (laws_eqTiling.calls kj20 t335 t336 _ _ t337 t353 t354 _ _ t355 false _ ?side1 ?side2 ?side3 ?side4 A88.out).mono ?_
         (case side1 => repeat (first | exact (Kd.R_reads' HO_341002.out).2.2 | (with_reducible refine Kd.C_alloc ?_ _) | (with_reducible refine Kd.C_drewN ?_ _) | (with_reducible refine Kd.C_drew ?_)))
         (case side2 => exact (Kd.R_reads' HO_341002.out).2.1)
         (case side3 => repeat (first | exact (Kd.R_reads' HO357.out).2.2 | (with_reducible refine Kd.C_alloc ?_ _) | (with_reducible refine Kd.C_drewN ?_ _) | (with_reducible refine Kd.C_drew ?_)))
         (case side4 => exact (Kd.R_reads' HO357.out).2.1)
         rintro e w97 ⟨rfl, hb⟩
         refine ⟨_, rfl, ?_⟩
         have n0_ := mkA (Kd.R_below (by (with_reducible repeat (first | apply Kd.R_alloc | apply Kd.R_drewN | apply Kd.R_drew)); exact HO_341002.out) hb)
         have n1_ := mkA (Kd.R_below (by (with_reducible repeat (first | apply Kd.R_alloc | apply Kd.R_drewN | apply Kd.R_drew)); exact HO357.out) hb)
         have n2_ := mkA (blk_below (g := gb315) (o := .cells #[.int .i64 a0_0, .int .i64 a0_1, .slice A0_2 l0_2.length c0_2] 24 (0, 0)) (bl_ BK315.out) hb)
         have n3_ := mkA (blk_below (g := gb316) (o := .cells #[.int .i64 a1_0, .int .i64 a1_1, .int .i64 a1_2] 26 (0, 0)) (bl_ BK316.out) hb)
         have n4_ := mkA (blk_below (g := gb317) (o := .cells #[.int .i64 a2_0, .int .i64 a2_1, .int .i64 a2_2] 26 (0, 0)) (bl_ BK317.out) hb)
         have n5_ := mkA (blk_below (g := gb334) (o := .cells #[.int .i64 t330, .int .i64 t331, .int .i64 t332] 31 (0, 0)) (bl_ BK334.out) hb)
         have n6_ := mkA (blk_below (g := gb340) (o := .cells #[.int .i64 t335, .int .i64 t336, .slice Ao49 t337.length co49] 29 (0, 0)) (bl_ BK340.out) hb)
         have n7_ := mkA (blk_below (g := gb351) (o := .cells #[.int .i64 t347, .int .i64 t348, .int .i64 t349] 31 (0, 0)) (bl_ BK351.out) hb)
         have n8_ := mkA (below_step (bs6_ HB.out GE315.out GE316.out GE317.out GE334.out GE340.out GE351.out) hb)
         clear HO_341002
         clear HO357
         clear BK315
         clear BK316
         clear BK317
         clear BK334
         clear BK340
         clear BK351
         clear HB
         have HO_341002 := n0_
         have HO357 := n1_
         have BK315 := n2_
         have BK316 := n3_
         have BK317 := n4_
         have BK334 := n5_
         have BK340 := n6_
         have BK351 := n7_
         have HB := n8_
         clear n0_ n1_ n2_ n3_ n4_ n5_ n6_ n7_ n8_
         (try clear hb)
         (try clear hb2)
         (try clear hk)
         (try clear hi)
         refine hK.out _ _ ⟨(blk_cell BK340.out 0).trans rfl, (blk_cell BK340.out 1).trans rfl, (blk_cell BK340.out 2).trans rfl, (blk_cell BK315.out 0).trans rfl, (blk_cell BK315.out 1).trans rfl, (blk_cell BK315.out 2).trans rfl⟩ (fun hHeld => ?_)
         clear hK K
         refine norm_ (a' := ?_) ?_ ?_
         rotate_left
         · show Act.put _ (some 51) _ = _
           simp only [Act.put, sA, sB, sC, i64_w, i32_w]
           rfl
         refine pure_ (i := 4) (N := some 52) (v := ?_) (a' := ?_) #[true, true, true, true, true] rfl rfl (by kernel_rfl) (fun _ _ _ h => h) (Or.inl ⟨by rfl, ?_⟩) ?_ ?_
         rotate_left
         · intro w'
           go_simp
           with_reducible rfl
         rotate_left
         · simp only [Act.put, sA, sB, sC, i64_w, i32_w]
           rfl
         refine done_ (by kernel_rfl) ?_
         try go_wp2
         go_ret
         exact ⟨by first | rfl | (simp [errW_none, errW_some] <;> rfl) | (simp [*, errW_none, errW_some] <;> rfl), by repeat (first | (with_reducible first | exact HB.out | apply below_alloc | apply pw_below_drewN | apply below_drew1 | refine below_set ?_ GE315.out | refine below_set ?_ GE316.out | refine below_set ?_ GE317.out | refine below_set ?_ GE334.out | refine below_set ?_ GE340.out | refine below_set ?_ GE351.out) | exact HB.out)⟩
def G24 (x : S24) : Prop := (Lit.int .i64 x.f0).wf = true ∧ (Lit.int .i64 x.f1).wf = true ∧ (x.f2.length ≤ maxLen ∧ ∀ y0 ∈ x.f2, (Lit.int .i64 y0).wf = true)
def G26 (x : S26) : Prop := (Lit.int .i64 x.f0).wf = true ∧ (Lit.int .i64 x.f1).wf = true ∧ (Lit.int .i64 x.f2).wf = true

/-- THE ONE PURE STATEMENT of laws_FnExactComposeMotions. -/
def laws_FnExactComposeMotions.Pure : Prop := ∀ (a0_0 : Int) (a0_1 : Int) (l0_2 : List Int) (a1_0 : Int) (a1_1 : Int) (a1_2 : Int) (a2_0 : Int) (a2_1 : Int) (a2_2 : Int), G24 (⟨a0_0, a0_1, l0_2⟩ : S24) → G26 (⟨a1_0, a1_1, a1_2⟩ : S26) → G26 (⟨a2_0, a2_1, a2_2⟩ : S26) → ∃ k, laws_FnExactComposeMotions.f k a0_0 a0_1 l0_2 a1_0 a1_1 a1_2 a2_0 a2_1 a2_2 = some true

end Go.Proofs.Ytnidibnhojedoaa.GFnExactComposeMotions
