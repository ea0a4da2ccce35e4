-- Written by the session's own program (gen.py) out of the translation's print. Lean checks it.
import Derived.Test.YtakagkflgkoiiaaGFnExactLaidCellsx0
import Derived.Test.YtakagkflgkoiiaaGFnExactLaidCellsx2
import Derived.Test.YtakagkflgkoiiaaGFnExactLaidCellsx3
import Derived.Test.YtakagkflgkoiiaaGFnExactLaidCellsx4
namespace Go.Proofs.Ytakagkflgkoiiaa.GFnExactLaidCells
open Go.RowKit Go.Proofs.YtakagkflgkoiiaaW.PrintWords Go.Proofs.YtakagkflgkoiiaaW.PrintLast Go.Proofs.YtakagkflgkoiiaaW.PrintMore
attribute [local go_sem] max2_int min2_int max_two min_two max_three min_three max_four min_four   -- for this text's walks alone
set_option linter.unusedVariables false
set_option linter.unusedSimpArgs false

/-! ### spec_l19Piece: function 72 -/
mutual
def spec_l19Piece.j0 : Nat → Bool → List (S53) → Option (Bool)
  | 0, _, _ => none
  | k + 1, x35, x960 => if x35 = true then (some false) else (spec_l19Piece.l0 k 0 x960)
def spec_l19Piece.l0 : Nat → Int → List (S53) → Option (Bool)
  | 0, _, _ => none
  | k + 1, x3, x960 => if 0 < (x960.length : Int) then (if x3 < (((rd_T53 x960 0).f1).length : Int) then (if 0 ≤ x3 then ((spec_l00In.f ((rd_T105 ((rd_T53 x960 0).f1) x3).f0) 0 5).bind fun t167 => (if t167 = true then ((spec_l00In.f ((rd_T105 ((rd_T53 x960 0).f1) x3).f1) 0 5).bind fun t170 => (if t170 = true then (if x3 > 0 then (if 0 ≤ (wrap64 (x3 - 1)) then (if (wrap64 (x3 - 1)) < (((rd_T53 x960 0).f1).length : Int) then ((spec_l19Before.f ((rd_T105 ((rd_T53 x960 0).f1) (wrap64 (x3 - 1))).f0) ((rd_T105 ((rd_T53 x960 0).f1) (wrap64 (x3 - 1))).f1) ((rd_T105 ((rd_T53 x960 0).f1) x3).f0) ((rd_T105 ((rd_T53 x960 0).f1) x3).f1)).bind fun t175 => (if t175 = true then (spec_l19Piece.l0 k (wrap64 (x3 + 1)) x960) else (some false))) else (none)) else (none)) else (spec_l19Piece.l0 k (wrap64 (x3 + 1)) x960)) else (some false))) else (some false))) else (none)) else ((spec_l03Bounds.f k ((rd_T53 x960 0).f1)).bind fun bt159 => (if bt159.1 = 0 then (some (bt159.2.1 == 0)) else (some false)))) else (none)
end
def spec_l19Piece.f (k : Nat) (l0 : List (S53)) : Option (Bool) := if 0 < (l0.length : Int) then ((spec_l01Name.f k ((rd_T53 l0 0).f0)).bind fun t152 => (if t152 = true then (if (((rd_T53 l0 0).f1).length : Int) < 1 then (spec_l19Piece.j0 k true l0) else (if (((rd_T53 l0 0).f1).length : Int) > 6 then (spec_l19Piece.j0 k true l0) else ((spec_l00In.f ((rd_T53 l0 0).f2) 0 24).bind fun t156 => (spec_l19Piece.j0 k (!t156) l0)))) else (spec_l19Piece.j0 k true l0))) else (none)
theorem spec_l19Piece.mono_l : ∀ k, (∀ y0 y1, LeO (spec_l19Piece.j0 k y0 y1) (spec_l19Piece.j0 (k + 1) y0 y1)) ∧ (∀ y0 y1, LeO (spec_l19Piece.l0 k y0 y1) (spec_l19Piece.l0 (k + 1) y0 y1))
  | 0 => ⟨fun _ _ r h => by simp [spec_l19Piece.j0] at h, fun _ _ r h => by simp [spec_l19Piece.l0] at h⟩
  | k + 1 => by
    obtain ⟨ih0, ih1⟩ := spec_l19Piece.mono_l k
    refine ⟨?_, ?_⟩
    · intro y0 y1
      unfold spec_l19Piece.j0
      repeat' first
      | (with_reducible exact ih0 _ _)
      | (with_reducible exact ih1 _ _)
      | (with_reducible exact spec_l01Name.mono _ _)
      | (with_reducible exact spec_l03Bounds.mono _ _)
      | (with_reducible exact LeO.refl _)
      | (with_reducible exact LeO.none _)
      | (with_reducible refine LeO.ite ?_ ?_)
      | (with_reducible refine LeO.bind ?_ (fun _ => ?_))
      | exact ih0 _ _
      | exact ih1 _ _
      | exact spec_l01Name.mono _ _
      | exact spec_l03Bounds.mono _ _
      | exact LeO.none _
      | refine LeO.ite ?_ ?_
      | refine LeO.bind ?_ (fun _ => ?_)
    · intro y0 y1
      unfold spec_l19Piece.l0
      repeat' first
      | (with_reducible exact ih0 _ _)
      | (with_reducible exact ih1 _ _)
      | (with_reducible exact spec_l01Name.mono _ _)
      | (with_reducible exact spec_l03Bounds.mono _ _)
      | (with_reducible exact LeO.refl _)
      | (with_reducible exact LeO.none _)
      | (with_reducible refine LeO.ite ?_ ?_)
      | (with_reducible refine LeO.bind ?_ (fun _ => ?_))
      | exact ih0 _ _
      | exact ih1 _ _
      | exact spec_l01Name.mono _ _
      | exact spec_l03Bounds.mono _ _
      | exact LeO.none _
      | refine LeO.ite ?_ ?_
      | refine LeO.bind ?_ (fun _ => ?_)
theorem spec_l19Piece.mono : ∀ a0 k, LeO (spec_l19Piece.f k a0) (spec_l19Piece.f (k + 1) a0) := by
  intro a0 k
  obtain ⟨ih0, ih1⟩ := spec_l19Piece.mono_l k
  unfold spec_l19Piece.f
  repeat' first
      | (with_reducible exact ih0 _ _)
      | (with_reducible exact ih1 _ _)
      | (with_reducible exact spec_l01Name.mono _ _)
      | (with_reducible exact spec_l03Bounds.mono _ _)
      | (with_reducible exact LeO.refl _)
      | (with_reducible exact LeO.none _)
      | (with_reducible refine LeO.ite ?_ ?_)
      | (with_reducible refine LeO.bind ?_ (fun _ => ?_))
      | exact ih0 _ _
      | exact ih1 _ _
      | exact spec_l01Name.mono _ _
      | exact spec_l03Bounds.mono _ _
      | exact LeO.none _
      | refine LeO.ite ?_ ?_
      | refine LeO.bind ?_ (fun _ => ?_)
def spec_l19Piece.T6 : Bool × List (List Nat × List Nat) := (true, [([], []), ([0], [0]), ([1], [1]), ([2], [2]), ([], []), ([3, 4], [3, 4]), ([5], [5]), ([6], [6]), ([7], [7]), ([8], [8]), ([9, 8], [9]), ([10], [10]), ([11, 10], [10, 11]), ([12, 10], [10, 12]), ([13, 10], [10, 13]), ([10], [10]), ([14, 15, 10], [10, 14, 15]), ([16, 10], [10, 16]), ([17, 10], [10, 17]), ([18, 10, 10], [10, 18]), ([19, 10], [10, 19]), ([10, 20], [10, 20]), ([21, 19], [21]), ([22], [22]), ([23, 22], [22, 23]), ([24, 22, 22], [22, 24]), ([25], [25]), ([26, 25], [25, 26]), ([27, 25], [25, 27]), ([28, 25], [25, 28]), ([25], [25]), ([30, 25], [25, 30]), ([29, 31, 25], [25, 29, 31]), ([32, 25], [25, 32]), ([25], [25]), ([34, 25], [25, 34]), ([35, 25], [25, 35]), ([36, 25], [25, 36]), ([25], [25]), ([37, 38, 25], [25, 37, 38]), ([39, 25], [25, 39]), ([33, 40, 25, 25], [25, 33, 40]), ([41, 25], [25, 41]), ([25, 42, 22], [22, 25, 42]), ([22, 43], [22, 43])])
def spec_l19Piece.B6 : List Nat := [0, 1, 3, 7, 0, 31, 63, 127, 255, 511, 1023, 2047, 4095, 8191, 16383, 2047, 65535, 131071, 262143, 524287, 1048575, 2097151, 4194303, 8388607, 16777215, 33554431, 67108863, 134217727, 268435455, 536870911, 67108863, 1140850687, 4294967295, 8589934591, 67108863, 17246978047, 51606716415, 120326193151, 67108863, 532643053567, 1082398867455, 2199023255551, 4398046511103, 8796093022207, 17592186044415]
theorem spec_l19Piece.tab6 : rtab .any (opsOf Try.f72 6) = spec_l19Piece.T6 := by kernel_rfl
theorem spec_l19Piece.bits6 : waitsOk spec_l19Piece.T6.2 spec_l19Piece.B6 = true := by kernel_rfl
open List renaming setIfInBounds_toArray → sA, set_cons_zero → sB, set_cons_succ → sC
open Go.Proofs.YtakagkflgkoiiaaW.PrintWords.Aside0 renaming mk → mkA
open Go.Proofs.YtakagkflgkoiiaaX (dt_ bc_ p0_ p1_ bl_ cb_ bs0_ bs1_ bs2_ bs3_ bs4_ bs5_ bs6_ bs7_ bs8_ bs9_ bs10_ bs11_ bs12_)
abbrev spec_l19Piece.d0 : Array Bool := #[false, false, false, false, false, false, false, false, false, false, false, false, false, false, false, false, false, false, false, false, false, false, false, false, false, false, false, false, false, false, false, false, false, false, false, false, false, false, false, false, false, false, false, false, false]
abbrev spec_l19Piece.d1 : Array Bool := #[true, false, false, false, false, false, false, false, false, false, false, false, false, false, false, false, false, false, false, false, false, false, false, false, false, false, false, false, false, false, false, false, false, false, false, false, false, false, false, false, false, false, false, false, false]
abbrev spec_l19Piece.d2 : Array Bool := #[true, true, false, false, false, false, false, false, false, false, false, false, false, false, false, false, false, false, false, false, false, false, false, false, false, false, false, false, false, false, false, false, false, false, false, false, false, false, false, false, false, false, false, false, false]
abbrev spec_l19Piece.d3 : Array Bool := #[true, true, true, false, false, false, false, false, false, false, false, false, false, false, false, false, false, false, false, false, false, false, false, false, false, false, false, false, false, false, false, false, false, false, false, false, false, false, false, false, false, false, false, false, false]
abbrev spec_l19Piece.d4 : Array Bool := #[true, true, true, false, true, false, false, false, false, false, false, false, false, false, false, false, false, false, false, false, false, false, false, false, false, false, false, false, false, false, false, false, false, false, false, false, false, false, false, false, false, false, false, false, false]
abbrev spec_l19Piece.d5 : Array Bool := #[true, true, true, true, true, false, false, false, false, false, false, false, false, false, false, false, false, false, false, false, false, false, false, false, false, false, false, false, false, false, false, false, false, false, false, false, false, false, false, false, false, false, false, false, false]
abbrev spec_l19Piece.d6 : Array Bool := #[true, true, true, true, true, true, false, false, false, false, false, false, false, false, false, false, false, false, false, false, false, false, false, false, false, false, false, false, false, false, false, false, false, false, false, false, false, false, false, false, false, false, false, false, false]
abbrev spec_l19Piece.d7 : Array Bool := #[true, true, true, true, true, true, true, false, false, false, false, false, false, false, false, false, false, false, false, false, false, false, false, false, false, false, false, false, false, false, false, false, false, false, false, false, false, false, false, false, false, false, false, false, false]
abbrev spec_l19Piece.d8 : Array Bool := #[true, true, true, true, true, true, true, true, false, false, false, false, false, false, false, false, false, false, false, false, false, false, false, false, false, false, false, false, false, false, false, false, false, false, false, false, false, false, false, false, false, false, false, false, false]
abbrev spec_l19Piece.d9 : Array Bool := #[true, true, true, true, true, true, true, true, true, false, false, false, false, false, false, false, false, false, false, false, false, false, false, false, false, false, false, false, false, false, false, false, false, false, false, false, false, false, false, false, false, false, false, false, false]
abbrev spec_l19Piece.d10 : Array Bool := #[true, true, true, true, true, true, true, true, true, true, false, false, false, false, false, false, false, false, false, false, false, false, false, false, false, false, false, false, false, false, false, false, false, false, false, false, false, false, false, false, false, false, false, false, false]
abbrev spec_l19Piece.d11 : Array Bool := #[true, true, true, true, true, true, true, true, true, true, true, false, false, false, false, false, false, false, false, false, false, false, false, false, false, false, false, false, false, false, false, false, false, false, false, false, false, false, false, false, false, false, false, false, false]
abbrev spec_l19Piece.d12 : Array Bool := #[true, true, true, true, true, true, true, true, true, true, true, true, false, false, false, false, false, false, false, false, false, false, false, false, false, false, false, false, false, false, false, false, false, false, false, false, false, false, false, false, false, false, false, false, false]
abbrev spec_l19Piece.d13 : Array Bool := #[true, true, true, true, true, true, true, true, true, true, true, true, true, false, false, false, false, false, false, false, false, false, false, false, false, false, false, false, false, false, false, false, false, false, false, false, false, false, false, false, false, false, false, false, false]
abbrev spec_l19Piece.d14 : Array Bool := #[true, true, true, true, true, true, true, true, true, true, true, true, true, true, false, false, false, false, false, false, false, false, false, false, false, false, false, false, false, false, false, false, false, false, false, false, false, false, false, false, false, false, false, false, false]
abbrev spec_l19Piece.d15 : Array Bool := #[true, true, true, true, true, true, true, true, true, true, true, true, true, true, false, true, false, false, false, false, false, false, false, false, false, false, false, false, false, false, false, false, false, false, false, false, false, false, false, false, false, false, false, false, false]
abbrev spec_l19Piece.d16 : Array Bool := #[true, true, true, true, true, true, true, true, true, true, true, true, true, true, true, true, false, false, false, false, false, false, false, false, false, false, false, false, false, false, false, false, false, false, false, false, false, false, false, false, false, false, false, false, false]
abbrev spec_l19Piece.d17 : Array Bool := #[true, true, true, true, true, true, true, true, true, true, true, true, true, true, true, true, true, false, false, false, false, false, false, false, false, false, false, false, false, false, false, false, false, false, false, false, false, false, false, false, false, false, false, false, false]
abbrev spec_l19Piece.d18 : Array Bool := #[true, true, true, true, true, true, true, true, true, true, true, true, true, true, true, true, true, true, false, false, false, false, false, false, false, false, false, false, false, false, false, false, false, false, false, false, false, false, false, false, false, false, false, false, false]
abbrev spec_l19Piece.d19 : Array Bool := #[true, true, true, true, true, true, true, true, true, true, true, true, true, true, true, true, true, true, true, false, false, false, false, false, false, false, false, false, false, false, false, false, false, false, false, false, false, false, false, false, false, false, false, false, false]
abbrev spec_l19Piece.d20 : Array Bool := #[true, true, true, true, true, true, true, true, true, true, true, true, true, true, true, true, true, true, true, true, false, false, false, false, false, false, false, false, false, false, false, false, false, false, false, false, false, false, false, false, false, false, false, false, false]
abbrev spec_l19Piece.d21 : Array Bool := #[true, true, true, true, true, true, true, true, true, true, true, true, true, true, true, true, true, true, true, true, true, false, false, false, false, false, false, false, false, false, false, false, false, false, false, false, false, false, false, false, false, false, false, false, false]
abbrev spec_l19Piece.d22 : Array Bool := #[true, true, true, true, true, true, true, true, true, true, true, true, true, true, true, true, true, true, true, true, true, true, false, false, false, false, false, false, false, false, false, false, false, false, false, false, false, false, false, false, false, false, false, false, false]
abbrev spec_l19Piece.d23 : Array Bool := #[true, true, true, true, true, true, true, true, true, true, true, true, true, true, true, true, true, true, true, true, true, true, true, false, false, false, false, false, false, false, false, false, false, false, false, false, false, false, false, false, false, false, false, false, false]
abbrev spec_l19Piece.d24 : Array Bool := #[true, true, true, true, true, true, true, true, true, true, true, true, true, true, true, true, true, true, true, true, true, true, true, true, false, false, false, false, false, false, false, false, false, false, false, false, false, false, false, false, false, false, false, false, false]
abbrev spec_l19Piece.d25 : Array Bool := #[true, true, true, true, true, true, true, true, true, true, true, true, true, true, true, true, true, true, true, true, true, true, true, true, true, false, false, false, false, false, false, false, false, false, false, false, false, false, false, false, false, false, false, false, false]
abbrev spec_l19Piece.d26 : Array Bool := #[true, true, true, true, true, true, true, true, true, true, true, true, true, true, true, true, true, true, true, true, true, true, true, true, true, true, false, false, false, false, false, false, false, false, false, false, false, false, false, false, false, false, false, false, false]
abbrev spec_l19Piece.d27 : Array Bool := #[true, true, true, true, true, true, true, true, true, true, true, true, true, true, true, true, true, true, true, true, true, true, true, true, true, true, true, false, false, false, false, false, false, false, false, false, false, false, false, false, false, false, false, false, false]
abbrev spec_l19Piece.d28 : Array Bool := #[true, true, true, true, true, true, true, true, true, true, true, true, true, true, true, true, true, true, true, true, true, true, true, true, true, true, true, true, false, false, false, false, false, false, false, false, false, false, false, false, false, false, false, false, false]
abbrev spec_l19Piece.d29 : Array Bool := #[true, true, true, true, true, true, true, true, true, true, true, true, true, true, true, true, true, true, true, true, true, true, true, true, true, true, true, true, true, false, false, false, false, false, false, false, false, false, false, false, false, false, false, false, false]
abbrev spec_l19Piece.d30 : Array Bool := #[true, true, true, true, true, true, true, true, true, true, true, true, true, true, true, true, true, true, true, true, true, true, true, true, true, true, true, true, true, false, true, false, false, false, false, false, false, false, false, false, false, false, false, false, false]
abbrev spec_l19Piece.d31 : Array Bool := #[true, true, true, true, true, true, true, true, true, true, true, true, true, true, true, true, true, true, true, true, true, true, true, true, true, true, true, true, true, false, true, true, false, false, false, false, false, false, false, false, false, false, false, false, false]
abbrev spec_l19Piece.d32 : Array Bool := #[true, true, true, true, true, true, true, true, true, true, true, true, true, true, true, true, true, true, true, true, true, true, true, true, true, true, true, true, true, false, true, true, false, false, true, false, false, false, false, false, false, false, false, false, false]
abbrev spec_l19Piece.d33 : Array Bool := #[true, true, true, true, true, true, true, true, true, true, true, true, true, true, true, true, true, true, true, true, true, true, true, true, true, true, true, true, true, false, true, true, false, false, true, true, false, false, false, false, false, false, false, false, false]
abbrev spec_l19Piece.d34 : Array Bool := #[true, true, true, true, true, true, true, true, true, true, true, true, true, true, true, true, true, true, true, true, true, true, true, true, true, true, true, true, true, false, true, true, false, false, true, true, true, false, false, false, false, false, false, false, false]
abbrev spec_l19Piece.d35 : Array Bool := #[true, true, true, true, true, true, true, true, true, true, true, true, true, true, true, true, true, true, true, true, true, true, true, true, true, true, true, true, true, false, true, true, false, false, true, true, true, false, true, false, false, false, false, false, false]
abbrev spec_l19Piece.d36 : Array Bool := #[true, true, true, true, true, true, true, true, true, true, true, true, true, true, true, true, true, true, true, true, true, true, true, true, true, true, true, true, true, true, true, true, false, false, true, true, true, false, true, false, false, false, false, false, false]
abbrev spec_l19Piece.d37 : Array Bool := #[true, true, true, true, true, true, true, true, true, true, true, true, true, true, true, true, true, true, true, true, true, true, true, true, true, true, true, true, true, true, true, true, true, false, true, true, true, false, true, false, false, false, false, false, false]
abbrev spec_l19Piece.d38 : Array Bool := #[true, true, true, true, true, true, true, true, true, true, true, true, true, true, true, true, true, true, true, true, true, true, true, true, true, true, true, true, true, true, true, true, true, true, true, true, true, false, true, false, false, false, false, false, false]
abbrev spec_l19Piece.d39 : Array Bool := #[true, true, true, true, true, true, true, true, true, true, true, true, true, true, true, true, true, true, true, true, true, true, true, true, true, true, true, true, true, true, true, true, true, true, true, true, true, true, true, false, false, false, false, false, false]
abbrev spec_l19Piece.d40 : Array Bool := #[true, true, true, true, true, true, true, true, true, true, true, true, true, true, true, true, true, true, true, true, true, true, true, true, true, true, true, true, true, true, true, true, true, true, true, true, true, true, true, true, false, false, false, false, false]
abbrev spec_l19Piece.d41 : Array Bool := #[true, true, true, true, true, true, true, true, true, true, true, true, true, true, true, true, true, true, true, true, true, true, true, true, true, true, true, true, true, true, true, true, true, true, true, true, true, true, true, true, true, false, false, false, false]
abbrev spec_l19Piece.d42 : Array Bool := #[true, true, true, true, true, true, true, true, true, true, true, true, true, true, true, true, true, true, true, true, true, true, true, true, true, true, true, true, true, true, true, true, true, true, true, true, true, true, true, true, true, true, false, false, false]
abbrev spec_l19Piece.d43 : Array Bool := #[true, true, true, true, true, true, true, true, true, true, true, true, true, true, true, true, true, true, true, true, true, true, true, true, true, true, true, true, true, true, true, true, true, true, true, true, true, true, true, true, true, true, true, false, false]
abbrev spec_l19Piece.d44 : Array Bool := #[true, true, true, true, true, true, true, true, true, true, true, true, true, true, true, true, true, true, true, true, true, true, true, true, true, true, true, true, true, true, true, true, true, true, true, true, true, true, true, true, true, true, true, true, false]
abbrev spec_l19Piece.d45 : Array Bool := #[true, true, true, true, true, true, true, true, true, true, true, true, true, true, true, true, true, true, true, true, true, true, true, true, true, true, true, true, true, true, true, true, true, true, true, true, true, true, true, true, true, true, true, true, true]
abbrev spec_l19Piece.d46 : Array Bool := #[true, true, true, true, true, true, true, true, true, true, true, true, true, true, true, true, true, true, true, true, true, true, true, true, true, true, true, true, true, true, false, false, false, false, false, false, false, false, false, false, false, false, false, false, false]
abbrev spec_l19Piece.d47 : Array Bool := #[true, true, true, true, true, true, true, true, true, true, true, true, true, true, true, true, true, true, true, true, true, true, true, true, true, true, true, true, true, true, true, false, false, false, false, false, false, false, false, false, false, false, false, false, false]
abbrev spec_l19Piece.d48 : Array Bool := #[true, true, true, true, true, true, true, true, true, true, true, true, true, true, true, true, true, true, true, true, true, true, true, true, true, true, true, true, true, true, true, true, false, false, false, false, false, false, false, false, false, false, false, false, false]
abbrev spec_l19Piece.d49 : Array Bool := #[true, true, true, true, true, true, true, true, true, true, true, true, true, true, true, true, true, true, true, true, true, true, true, true, true, true, true, true, true, true, true, true, true, false, false, false, false, false, false, false, false, false, false, false, false]
abbrev spec_l19Piece.d50 : Array Bool := #[true, true, true, true, true, true, true, true, true, true, true, true, true, true, true, true, true, true, true, true, true, true, true, true, true, true, true, true, true, true, true, true, true, true, false, false, false, false, false, false, false, false, false, false, false]
abbrev spec_l19Piece.d51 : Array Bool := #[true, true, true, true, true, true, true, true, true, true, true, true, true, true, true, true, true, true, true, true, true, true, true, true, true, true, true, true, true, true, true, true, true, true, true, false, false, false, false, false, false, false, false, false, false]
abbrev spec_l19Piece.d52 : Array Bool := #[true, true, true, true, true, true, true, true, true, true, true, true, true, true, true, true, true, true, true, true, true, true, true, true, true, true, true, true, true, true, true, true, true, true, true, true, false, false, false, false, false, false, false, false, false]
abbrev spec_l19Piece.d53 : Array Bool := #[true, true, true, true, true, true, true, true, true, true, true, true, true, true, true, true, true, true, true, true, true, true, true, true, true, true, true, true, true, true, true, true, true, true, true, true, true, false, false, false, false, false, false, false, false]
abbrev spec_l19Piece.d54 : Array Bool := #[true, true, true, true, true, true, true, true, true, true, true, true, true, true, true, true, true, true, true, true, true, true, true, true, true, true, true, true, true, true, true, true, true, true, true, true, true, true, false, false, false, false, false, false, false]
abbrev spec_l19Piece.d55 : Array Bool := #[true, true, true, true, true, true, true, true, true, true, true, true, true, true, true, false, false, false, false, false, false, false, false, false, false, false, false, false, false, false, false, false, false, false, false, false, false, false, false, false, false, false, false, false, false]
set_option maxHeartbeats 8000000 in
set_option maxRecDepth 100000 in
theorem spec_l19Piece.calls (k : Nat) (A0 : Option Addr) (l0 : List (S53)) (r : Bool) (w : World) (hr0 : Kd.C k53 w A0 l0.length l0) (h : spec_l19Piece.f k l0 = some r) :
 Calls Try.prog 72 #[.pointer A0] w fun e w' => e = .returned (.bool r) ∧ Below w.heap.size w w' := by
 have hu105 := Try.underlying105
 have HR0 := mkA hr0
 clear hr0
 have HB := mkA (Below.refl w.heap.size w)
 have H : (if 0 < (l0.length : Int) then ((spec_l01Name.f k ((rd_T53 l0 0).f0)).bind fun t152 => (if t152 = true then (if (((rd_T53 l0 0).f1).length : Int) < 1 then (spec_l19Piece.j0 k true l0) else (if (((rd_T53 l0 0).f1).length : Int) > 6 then (spec_l19Piece.j0 k true l0) else ((spec_l00In.f ((rd_T53 l0 0).f2) 0 24).bind fun t156 => (spec_l19Piece.j0 k (!t156) l0)))) else (spec_l19Piece.j0 k true l0))) else (none)) = some r := h
 clear h
 have HC2 := mkA H
 clear H
 go_enter Try.func72, Try.ntmps72
 go_upto_region 1 with (fail)
 go_cut [35] (fun v35 wc => ∃ (kq : Nat) (x35_1 : Bool), v35 = .bool x35_1 ∧ Aside0 (spec_l19Piece.j0 kq x35_1 l0 = some r) ∧ Aside0 (kq ≤ k) ∧ Aside0 (Below w.heap.size w wc))
 case first =>
  have H := HC2.out
  clear HC2
  by_cases c3 : 0 < (l0.length : Int)
  rotate_left
  · rw [if_neg c3] at H
    exact absurd H (by simp)
  rw [if_pos c3] at H
  have c3b0 : decide (0 < (l0.length : Int)) = true := decide_eq_true c3
  have c3b1 : decide (0 < l0.length) = true := decide_eq_true (by omega)
  clear c3
  (first | rw [c3b0] | (simp only [i64_w, i32_w]; rw [c3b0]) | skip)
  replace H := Option.bind_eq_some_iff.mp H
  obtain ⟨t152, A40, H⟩ := H
  replace H : (if t152 = true then (if (((rd_T53 l0 0).f1).length : Int) < 1 then (spec_l19Piece.j0 k true l0) else (if (((rd_T53 l0 0).f1).length : Int) > 6 then (spec_l19Piece.j0 k true l0) else ((spec_l00In.f ((rd_T53 l0 0).f2) 0 24).bind fun t156 => (spec_l19Piece.j0 k (!t156) l0)))) else (spec_l19Piece.j0 k true l0)) = some r := H
  have A4 := mkA A40
  clear A40
  by_cases c5 : t152 = true
  rotate_left
  · replace c5 := Bool.eq_false_iff.mpr c5
    subst c5
    have H1 : (spec_l19Piece.j0 k true l0) = some r := by rw [if_neg (show ¬ (false = true) by decide)] at H; exact H
    clear H
    have H := H1
    clear H1
    have H' := mkA H
    clear H
    have p151 : 0 ≤ (0 : Int) := (by omega)
    have q151 : 0 < (l0.length : Int) := dt_
    obtain ⟨ad151, A151_1, c151_1, e151, hx151_0, hx151_1, hx151_2, hx151_3, hl151_1, hi151_1⟩ := at0_T53 HR0.out q151
    cases e151
    have qi151 : (0 < l0.length) = True := eq_true (by omega)
    replace hx151_0 := bc_ HB.out hx151_0
    replace hx151_1 := bc_ HB.out hx151_1
    replace hx151_2 := bc_ HB.out hx151_2
    replace hx151_3 := bc_ HB.out hx151_3
    have HR151_1 := mkA hi151_1
    have HC151_1 := mkA hl151_1
    clear hi151_1 hl151_1
    replace p151 := eq_true p151
    replace q151 := eq_true q151
    go_wp2_with (first | ((with_reducible refine gate_callee (f := 91) rfl ?_); refine goesL_ (some 10) rfl rfl Try.func91 (by kernel_rfl) rfl #[.string ((rd_T53 l0 0).f0)] rfl (by (try simp only [List.map_toArray, List.map_cons, List.map_nil]); first | done | rfl | (simp only [List.length_drop, List.length_take]; rfl)) ?_; (with_reducible refine (spec_l01Name.calls k ((rd_T53 l0 0).f0) false _ A4.out).mono ?_); rintro e w' ⟨rfl, ⟨nd, rfl⟩⟩; refine ⟨_, rfl, ?_⟩))
    go_meet
    case rel => exact ⟨_, (true), (by first | rfl | (simp; done) | (simp [*]; done) | (simp [i64_w, i32_w]; done)), H', ⟨by first | omega | exact Nat.le_refl _⟩, ⟨by repeat (first | (with_reducible first | exact HB.out | apply below_alloc | apply pw_below_drewN | apply below_drew1) | exact HB.out)⟩⟩
  subst c5
  have H1 : (if (((rd_T53 l0 0).f1).length : Int) < 1 then (spec_l19Piece.j0 k true l0) else (if (((rd_T53 l0 0).f1).length : Int) > 6 then (spec_l19Piece.j0 k true l0) else ((spec_l00In.f ((rd_T53 l0 0).f2) 0 24).bind fun t156 => (spec_l19Piece.j0 k (!t156) l0)))) = some r := by rw [if_pos rfl] at H; exact H
  clear H
  have H := H1
  clear H1
  by_cases c6 : (((rd_T53 l0 0).f1).length : Int) < 1
  · rw [if_pos c6] at H
    have c6b0 : decide ((((rd_T53 l0 0).f1).length : Int) < 1) = true := decide_eq_true c6
    have c6b1 : decide (((rd_T53 l0 0).f1).length < 1) = true := decide_eq_true (by omega)
    clear c6
    have H' := mkA H
    clear H
    have p151 : 0 ≤ (0 : Int) := (by omega)
    have q151 : 0 < (l0.length : Int) := dt_
    obtain ⟨ad151, A151_1, c151_1, e151, hx151_0, hx151_1, hx151_2, hx151_3, hl151_1, hi151_1⟩ := at0_T53 HR0.out q151
    cases e151
    have qi151 : (0 < l0.length) = True := eq_true (by omega)
    replace hx151_0 := bc_ HB.out hx151_0
    replace hx151_1 := bc_ HB.out hx151_1
    replace hx151_2 := bc_ HB.out hx151_2
    replace hx151_3 := bc_ HB.out hx151_3
    have HR151_1 := mkA hi151_1
    have HC151_1 := mkA hl151_1
    clear hi151_1 hl151_1
    replace p151 := eq_true p151
    replace q151 := eq_true q151
    go_wp2_with (first | ((with_reducible refine gate_callee (f := 91) rfl ?_); refine goesL_ (some 10) rfl rfl Try.func91 (by kernel_rfl) rfl #[.string ((rd_T53 l0 0).f0)] rfl (by (try simp only [List.map_toArray, List.map_cons, List.map_nil]); first | done | rfl | (simp only [List.length_drop, List.length_take]; rfl)) ?_; (with_reducible refine (spec_l01Name.calls k ((rd_T53 l0 0).f0) true _ A4.out).mono ?_); rintro e w' ⟨rfl, ⟨nd, rfl⟩⟩; refine ⟨_, rfl, ?_⟩; have p153 : 0 ≤ (0 : Int) := (by omega); have q153 : 0 < (l0.length : Int) := dt_; obtain ⟨ad153, A153_1, c153_1, e153, hx153_0, hx153_1, hx153_2, hx153_3, hl153_1, hi153_1⟩ := at0_T53 HR0.out q153; obtain rfl : ad151 = ad153 := (by injection e153); have qi153 : (0 < l0.length) = True := eq_true (by omega); replace hx153_0 := bc_ HB.out hx153_0; replace hx153_1 := bc_ HB.out hx153_1; replace hx153_2 := bc_ HB.out hx153_2; replace hx153_3 := bc_ HB.out hx153_3; have HR153_1 := mkA hi153_1; have HC153_1 := mkA hl153_1; clear hi153_1 hl153_1; replace p153 := eq_true p153; replace q153 := eq_true q153; have ea_ := Option.some.inj (hx151_1.symm.trans hx153_1); injection ea_ with ea_ en_ ec_; subst ea_; subst ec_; clear en_))
    go_meet
    case rel => exact ⟨_, (true), (by first | rfl | (simp; done) | (simp [*]; done) | (simp [i64_w, i32_w]; done)), H', ⟨by first | omega | exact Nat.le_refl _⟩, ⟨by repeat (first | (with_reducible first | exact HB.out | apply below_alloc | apply pw_below_drewN | apply below_drew1) | exact HB.out)⟩⟩
  · rw [if_neg c6] at H
    have c6b0 : decide ((((rd_T53 l0 0).f1).length : Int) < 1) = false := decide_eq_false c6
    have c6b1 : decide (((rd_T53 l0 0).f1).length < 1) = false := decide_eq_false (by omega)
    clear c6
    by_cases c7 : (((rd_T53 l0 0).f1).length : Int) > 6
    · rw [if_pos c7] at H
      have c7b0 : decide (6 < (((rd_T53 l0 0).f1).length : Int)) = true := decide_eq_true c7
      have c7b1 : decide (6 < ((rd_T53 l0 0).f1).length) = true := decide_eq_true (by omega)
      clear c7
      have H' := mkA H
      clear H
      have p151 : 0 ≤ (0 : Int) := (by omega)
      have q151 : 0 < (l0.length : Int) := dt_
      obtain ⟨ad151, A151_1, c151_1, e151, hx151_0, hx151_1, hx151_2, hx151_3, hl151_1, hi151_1⟩ := at0_T53 HR0.out q151
      cases e151
      have qi151 : (0 < l0.length) = True := eq_true (by omega)
      replace hx151_0 := bc_ HB.out hx151_0
      replace hx151_1 := bc_ HB.out hx151_1
      replace hx151_2 := bc_ HB.out hx151_2
      replace hx151_3 := bc_ HB.out hx151_3
      have HR151_1 := mkA hi151_1
      have HC151_1 := mkA hl151_1
      clear hi151_1 hl151_1
      replace p151 := eq_true p151
      replace q151 := eq_true q151
      go_wp2_with (first | ((with_reducible refine gate_callee (f := 91) rfl ?_); refine goesL_ (some 10) rfl rfl Try.func91 (by kernel_rfl) rfl #[.string ((rd_T53 l0 0).f0)] rfl (by (try simp only [List.map_toArray, List.map_cons, List.map_nil]); first | done | rfl | (simp only [List.length_drop, List.length_take]; rfl)) ?_; (with_reducible refine (spec_l01Name.calls k ((rd_T53 l0 0).f0) true _ A4.out).mono ?_); rintro e w' ⟨rfl, ⟨nd, rfl⟩⟩; refine ⟨_, rfl, ?_⟩; have p153 : 0 ≤ (0 : Int) := (by omega); have q153 : 0 < (l0.length : Int) := dt_; obtain ⟨ad153, A153_1, c153_1, e153, hx153_0, hx153_1, hx153_2, hx153_3, hl153_1, hi153_1⟩ := at0_T53 HR0.out q153; obtain rfl : ad151 = ad153 := (by injection e153); have qi153 : (0 < l0.length) = True := eq_true (by omega); replace hx153_0 := bc_ HB.out hx153_0; replace hx153_1 := bc_ HB.out hx153_1; replace hx153_2 := bc_ HB.out hx153_2; replace hx153_3 := bc_ HB.out hx153_3; have HR153_1 := mkA hi153_1; have HC153_1 := mkA hl153_1; clear hi153_1 hl153_1; replace p153 := eq_true p153; replace q153 := eq_true q153; have ea_ := Option.some.inj (hx151_1.symm.trans hx153_1); injection ea_ with ea_ en_ ec_; subst ea_; subst ec_; clear en_; have p154 : 0 ≤ (0 : Int) := (by omega); have q154 : 0 < (l0.length : Int) := dt_; obtain ⟨ad154, A154_1, c154_1, e154, hx154_0, hx154_1, hx154_2, hx154_3, hl154_1, hi154_1⟩ := at0_T53 HR0.out q154; obtain rfl : ad151 = ad154 := (by injection e154); have qi154 : (0 < l0.length) = True := eq_true (by omega); replace hx154_0 := bc_ HB.out hx154_0; replace hx154_1 := bc_ HB.out hx154_1; replace hx154_2 := bc_ HB.out hx154_2; replace hx154_3 := bc_ HB.out hx154_3; have HR154_1 := mkA hi154_1; have HC154_1 := mkA hl154_1; clear hi154_1 hl154_1; replace p154 := eq_true p154; replace q154 := eq_true q154; have ea_ := Option.some.inj (hx151_1.symm.trans hx154_1); injection ea_ with ea_ en_ ec_; subst ea_; subst ec_; clear en_))
      go_meet
      case rel => exact ⟨_, (true), (by first | rfl | (simp; done) | (simp [*]; done) | (simp [i64_w, i32_w]; done)), H', ⟨by first | omega | exact Nat.le_refl _⟩, ⟨by repeat (first | (with_reducible first | exact HB.out | apply below_alloc | apply pw_below_drewN | apply below_drew1) | exact HB.out)⟩⟩
    · rw [if_neg c7] at H
      have c7b0 : decide (6 < (((rd_T53 l0 0).f1).length : Int)) = false := decide_eq_false c7
      have c7b1 : decide (6 < ((rd_T53 l0 0).f1).length) = false := decide_eq_false (by omega)
      clear c7
      replace H := Option.bind_eq_some_iff.mp H
      obtain ⟨t156, A80, H⟩ := H
      replace H : (spec_l19Piece.j0 k (!t156) l0) = some r := H
      have A8 := mkA A80
      clear A80
      have H' := mkA H
      clear H
      have p151 : 0 ≤ (0 : Int) := (by omega)
      have q151 : 0 < (l0.length : Int) := dt_
      obtain ⟨ad151, A151_1, c151_1, e151, hx151_0, hx151_1, hx151_2, hx151_3, hl151_1, hi151_1⟩ := at0_T53 HR0.out q151
      cases e151
      have qi151 : (0 < l0.length) = True := eq_true (by omega)
      replace hx151_0 := bc_ HB.out hx151_0
      replace hx151_1 := bc_ HB.out hx151_1
      replace hx151_2 := bc_ HB.out hx151_2
      replace hx151_3 := bc_ HB.out hx151_3
      have HR151_1 := mkA hi151_1
      have HC151_1 := mkA hl151_1
      clear hi151_1 hl151_1
      replace p151 := eq_true p151
      replace q151 := eq_true q151
      go_wp2_with (first | ((with_reducible refine gate_callee (f := 91) rfl ?_); refine goesL_ (some 10) rfl rfl Try.func91 (by kernel_rfl) rfl #[.string ((rd_T53 l0 0).f0)] rfl (by (try simp only [List.map_toArray, List.map_cons, List.map_nil]); first | done | rfl | (simp only [List.length_drop, List.length_take]; rfl)) ?_; (with_reducible refine (spec_l01Name.calls k ((rd_T53 l0 0).f0) true _ A4.out).mono ?_); rintro e w' ⟨rfl, ⟨nd, rfl⟩⟩; refine ⟨_, rfl, ?_⟩; have p153 : 0 ≤ (0 : Int) := (by omega); have q153 : 0 < (l0.length : Int) := dt_; obtain ⟨ad153, A153_1, c153_1, e153, hx153_0, hx153_1, hx153_2, hx153_3, hl153_1, hi153_1⟩ := at0_T53 HR0.out q153; obtain rfl : ad151 = ad153 := (by injection e153); have qi153 : (0 < l0.length) = True := eq_true (by omega); replace hx153_0 := bc_ HB.out hx153_0; replace hx153_1 := bc_ HB.out hx153_1; replace hx153_2 := bc_ HB.out hx153_2; replace hx153_3 := bc_ HB.out hx153_3; have HR153_1 := mkA hi153_1; have HC153_1 := mkA hl153_1; clear hi153_1 hl153_1; replace p153 := eq_true p153; replace q153 := eq_true q153; have ea_ := Option.some.inj (hx151_1.symm.trans hx153_1); injection ea_ with ea_ en_ ec_; subst ea_; subst ec_; clear en_; have p154 : 0 ≤ (0 : Int) := (by omega); have q154 : 0 < (l0.length : Int) := dt_; obtain ⟨ad154, A154_1, c154_1, e154, hx154_0, hx154_1, hx154_2, hx154_3, hl154_1, hi154_1⟩ := at0_T53 HR0.out q154; obtain rfl : ad151 = ad154 := (by injection e154); have qi154 : (0 < l0.length) = True := eq_true (by omega); replace hx154_0 := bc_ HB.out hx154_0; replace hx154_1 := bc_ HB.out hx154_1; replace hx154_2 := bc_ HB.out hx154_2; replace hx154_3 := bc_ HB.out hx154_3; have HR154_1 := mkA hi154_1; have HC154_1 := mkA hl154_1; clear hi154_1 hl154_1; replace p154 := eq_true p154; replace q154 := eq_true q154; have ea_ := Option.some.inj (hx151_1.symm.trans hx154_1); injection ea_ with ea_ en_ ec_; subst ea_; subst ec_; clear en_; have p155 : 0 ≤ (0 : Int) := (by omega); have q155 : 0 < (l0.length : Int) := dt_; obtain ⟨ad155, A155_1, c155_1, e155, hx155_0, hx155_1, hx155_2, hx155_3, hl155_1, hi155_1⟩ := at0_T53 HR0.out q155; obtain rfl : ad151 = ad155 := (by injection e155); have qi155 : (0 < l0.length) = True := eq_true (by omega); replace hx155_0 := bc_ HB.out hx155_0; replace hx155_1 := bc_ HB.out hx155_1; replace hx155_2 := bc_ HB.out hx155_2; replace hx155_3 := bc_ HB.out hx155_3; have HR155_1 := mkA hi155_1; have HC155_1 := mkA hl155_1; clear hi155_1 hl155_1; replace p155 := eq_true p155; replace q155 := eq_true q155; have ea_ := Option.some.inj (hx151_1.symm.trans hx155_1); injection ea_ with ea_ en_ ec_; subst ea_; subst ec_; clear en_) | (go_at_call 60; (with_reducible refine (spec_l00In.calls ((rd_T53 l0 0).f2) 0 24 t156 _ A8.out).mono ?_); rintro e w' ⟨rfl, ⟨nd, rfl⟩⟩))
      go_meet
      case rel => exact ⟨_, (!t156), (by first | rfl | (simp; done) | (simp [*]; done) | (simp [i64_w, i32_w]; done)), H', ⟨by first | omega | exact Nat.le_refl _⟩, ⟨by repeat (first | (with_reducible first | exact HB.out | apply below_alloc | apply pw_below_drewN | apply below_drew1) | exact HB.out)⟩⟩
 case rest =>
  clear HC2
  try clear c1
  try clear p1
  try clear q1
  try clear hx1
  try clear qi1
  try clear p2
  try clear c3
  try clear c3b0
  try clear c3b1
  try clear c5
  try clear c6
  try clear c6b0
  try clear c6b1
  try clear c7
  try clear c7b0
  try clear c7b1
  try clear hx151_0
  try clear hx151_1
  try clear hx151_2
  try clear hx151_3
  try clear hx153_0
  try clear hx153_1
  try clear hx153_2
  try clear hx153_3
  try clear hx154_0
  try clear hx154_1
  try clear hx154_2
  try clear hx154_3
  try clear hx155_0
  try clear hx155_1
  try clear hx155_2
  try clear hx155_3
  try clear p151
  try clear p153
  try clear p154
  try clear p155
  try clear q151
  try clear q153
  try clear q154
  try clear q155
  obtain ⟨kq, x35_1, rfl, HA, HJ1, HB⟩ := hcut
  cases kq with
  | zero => exact absurd HA.out (by simp [spec_l19Piece.j0])
  | succ kj1 =>
   have H := HA.out
   clear HA
   simp only [spec_l19Piece.j0] at H
   by_cases c9 : x35_1 = true
   · subst c9
     have H1 : (some false) = some r := by rw [if_pos rfl] at H; exact H
     clear H
     have H := H1
     clear H1
     obtain rfl := Option.some.inj H
     go_wp2
     go_ret
     exact ⟨by first | rfl | (simp [errW_none, errW_some] <;> rfl) | (simp [*, errW_none, errW_some] <;> rfl), by repeat (first | (with_reducible first | exact HB.out | apply below_alloc | apply pw_below_drewN | apply below_drew1) | exact HB.out)⟩
   · replace c9 := Bool.eq_false_iff.mpr c9
     subst c9
     have H1 : (spec_l19Piece.l0 kj1 0 l0) = some r := by rw [if_neg (show ¬ (false = true) by decide)] at H; exact H
     clear H
     have H := H1
     clear H1
     have H' := mkA H
     clear H
     go_wp2
     go_loopg [3] kj1 (fun kq v3 w' => ∃ (x3_2 : Int), v3 = .int .i64 x3_2 ∧ Aside0 (spec_l19Piece.l0 kq x3_2 l0 = some r) ∧ Aside0 (kq ≤ kj1) ∧ Aside0 (Below w.heap.size w w'))
     case atStart => exact ⟨(0), (by first | rfl | (simp; done) | (simp [*]; done) | (simp [i64_w, i32_w]; done)), H', ⟨Nat.le_refl _⟩, ⟨by repeat (first | (with_reducible first | exact HB.out | apply below_alloc | apply pw_below_drewN | apply below_drew1) | exact HB.out)⟩⟩
     case round =>
      clear H'
      try clear c1
      try clear p1
      try clear q1
      try clear hx1
      try clear qi1
      try clear p2
      try clear c3
      try clear c3b0
      try clear c3b1
      try clear c5
      try clear c6
      try clear c6b0
      try clear c6b1
      try clear c7
      try clear c7b0
      try clear c7b1
      try clear c9
      try clear hx151_0
      try clear hx151_1
      try clear hx151_2
      try clear hx151_3
      try clear hx153_0
      try clear hx153_1
      try clear hx153_2
      try clear hx153_3
      try clear hx154_0
      try clear hx154_1
      try clear hx154_2
      try clear hx154_3
      try clear hx155_0
      try clear hx155_1
      try clear hx155_2
      try clear hx155_3
      try clear p1
      try clear p151
      try clear p153
      try clear p154
      try clear p155
      try clear p2
      try clear q1
      try clear q151
      try clear q153
      try clear q154
      try clear q155
      obtain ⟨x3_2, rfl, HA, HK2, HB⟩ := hrel
      cases gk with
      | zero => exact absurd HA.out (by simp [spec_l19Piece.l0])
      | succ k2 =>
       have H := HA.out
       clear HA
       simp only [spec_l19Piece.l0] at H
       by_cases c10 : 0 < (l0.length : Int)
       rotate_left
       · rw [if_neg c10] at H
         exact absurd H (by simp)

       rw [if_pos c10] at H
       have c10b0 : decide (0 < (l0.length : Int)) = true := decide_eq_true c10
       have c10b1 : decide (0 < l0.length) = true := decide_eq_true (by omega)
       clear c10
       by_cases c11 : x3_2 < (((rd_T53 l0 0).f1).length : Int)
       rotate_left
       · rw [if_neg c11] at H
         have c11b0 : decide (x3_2 < (((rd_T53 l0 0).f1).length : Int)) = false := decide_eq_false c11
         clear c11
         replace H := Option.bind_eq_some_iff.mp H
         obtain ⟨⟨t159, t160, t161, t162⟩, A300, H⟩ := H
         replace H : (if t159 = 0 then (some (t160 == 0)) else (some false)) = some r := H
         have A30 := mkA A300
         clear A300
         by_cases c31 : t159 = 0
         rotate_left
         · rw [if_neg c31] at H
           have c31b0 : (t159 == 0) = false := beq_eq_false_iff_ne.mpr c31
           have c31b1 : (t159 != 0) = true := bne_iff_ne.mpr c31
           obtain rfl := Option.some.inj H
           have p157 : 0 ≤ (0 : Int) := (by omega)
           have q157 : 0 < (l0.length : Int) := dt_
           obtain ⟨ad157, A157_1, c157_1, e157, hx157_0, hx157_1, hx157_2, hx157_3, hl157_1, hi157_1⟩ := at0_T53 HR0.out q157
           cases e157
           have qi157 : (0 < l0.length) = True := eq_true (by omega)
           replace hx157_0 := bc_ HB.out hx157_0
           replace hx157_1 := bc_ HB.out hx157_1
           replace hx157_2 := bc_ HB.out hx157_2
           replace hx157_3 := bc_ HB.out hx157_3
           have HR157_1 := mkA hi157_1
           have HC157_1 := mkA hl157_1
           clear hi157_1 hl157_1
           replace p157 := eq_true p157
           replace q157 := eq_true q157
           have p158 : 0 ≤ (0 : Int) := (by omega)
           have q158 : 0 < (l0.length : Int) := dt_
           obtain ⟨ad158, A158_1, c158_1, e158, hx158_0, hx158_1, hx158_2, hx158_3, hl158_1, hi158_1⟩ := at0_T53 HR0.out q158
           obtain rfl : ad157 = ad158 := (by injection e158)
           have qi158 : (0 < l0.length) = True := eq_true (by omega)
           replace hx158_0 := bc_ HB.out hx158_0
           replace hx158_1 := bc_ HB.out hx158_1
           replace hx158_2 := bc_ HB.out hx158_2
           replace hx158_3 := bc_ HB.out hx158_3
           have HR158_1 := mkA hi158_1
           have HC158_1 := mkA hl158_1
           clear hi158_1 hl158_1
           replace p158 := eq_true p158
           replace q158 := eq_true q158
           have ea_ := Option.some.inj (hx157_1.symm.trans hx158_1)
           injection ea_ with ea_ en_ ec_
           subst ea_
           subst ec_
           clear en_
           go_wp2_with (first | ((with_reducible refine gate_callee (f := 93) rfl ?_); refine goesL_ (some 95) rfl rfl Try.func93 (by kernel_rfl) rfl #[.slice A157_1 ((rd_T53 l0 0).f1).length c157_1] rfl (by (try simp only [List.map_toArray, List.map_cons, List.map_nil]); first | done | rfl | (simp only [List.length_drop, List.length_take]; rfl)) ?_; (with_reducible refine (spec_l03Bounds.calls k2 _ _ ((rd_T53 l0 0).f1) t159 t160 t161 t162 _ ?side1 ?side2 A30.out).mono ?_); (case side1 => exact cb_ HR158_1.out HB.out); (case side2 => exact HC158_1.out); rintro e w38 ⟨rfl, hb⟩; refine ⟨_, rfl, ?_⟩; have n0_ := mkA (below_step (bs0_ HB.out) hb); clear HB; have HB := n0_; clear n0_; (try clear hb); (try clear hb2); (try clear hk); (try clear hi)) | ((with_reducible refine gate_dst (N := 4) rfl ?_); (try (refine gate_guard (by rfl) ?_; dsimp only)); refine box_event ?hg (N := 4) ?hd (cs := #[.int .i64 0, .int .i64 0]) (t := 105) ?hr ?_; (case hd => rfl); (case hg => rfl); (case hr => first | (go_simp; done) | (go_simp; rfl)); intro gb163 hg w39 hbox hb; have n0_ := mkA (below_step (bs0_ HB.out) hb); have n1_ := mkA (hbox); have n2_ := mkA ((by rw [hg]; exact (below_size (bs0_ HB.out)) : w.heap.size ≤ gb163)); have n3_ := mkA ((by rw [hg]; exact (below_size (bs0_ HB.out)) : w.heap.size ≤ gb163)); clear HB; have HB := n0_; have BK163 := n1_; have GW163 := n2_; have GE163 := n3_; clear n0_ n1_ n2_ n3_; clear hb hbox hg) | ((with_reducible refine gate_dst (N := 5) rfl ?_); (try (refine gate_guard (by rfl) ?_; dsimp only)); refine box_event ?hg (N := 5) ?hd (cs := #[.int .i64 0, .int .i64 0]) (t := 105) ?hr ?_; (case hd => rfl); (case hg => rfl); (case hr => first | (go_simp; done) | (go_simp; rfl)); intro gb164 hg w40 hbox hb; have n0_ := mkA (blk_below (g := gb163) (o := .cells #[.int .i64 0, .int .i64 0] 105 (0, 0)) (bl_ BK163.out) hb); have n1_ := mkA (below_step (bs1_ HB.out GE163.out) hb); have n2_ := mkA (hbox); have n3_ := mkA ((by rw [hg]; exact (below_size (bs1_ HB.out GE163.out)) : w.heap.size ≤ gb164)); have n4_ := mkA ((by rw [hg]; exact (below_size (bs1_ HB.out GE163.out)) : w.heap.size ≤ gb164)); have n5_ := mkA ((by rw [hg]; exact Nat.ne_of_lt (blk_lt (g := gb163) (o := .cells #[.int .i64 0, .int .i64 0] 105 (0, 0)) (bl_ BK163.out)) : gb163 ≠ gb164)); have n6_ := mkA ((by rw [hg]; exact Nat.ne_of_gt (blk_lt (g := gb163) (o := .cells #[.int .i64 0, .int .i64 0] 105 (0, 0)) (bl_ BK163.out)) : gb164 ≠ gb163)); clear BK163; clear HB; have BK163 := n0_; have HB := n1_; have BK164 := n2_; have GW164 := n3_; have GE164 := n4_; have NB163_164 := n5_; have NB164_163 := n6_; clear n0_ n1_ n2_ n3_ n4_ n5_ n6_; clear hb hbox hg; have hnb41 := NB163_164.out; have hnc41 := NB164_163.out; have hcz42_0 : w40.cell? ⟨gb163, 0, none⟩ = some (.int .i64 0) := (blk_cell BK163.out 0).trans rfl; have hcz42_1 : w40.cell? ⟨gb163, 1, none⟩ = some (.int .i64 0) := (blk_cell BK163.out 1).trans rfl; have hfz42_0 := blk_frozen BK163.out 0; have hfz42_1 := blk_frozen BK163.out 1; have hcz43_0 : w40.cell? ⟨gb164, 0, none⟩ = some (.int .i64 0) := (blk_cell BK164.out 0).trans rfl; have hcz43_1 : w40.cell? ⟨gb164, 1, none⟩ = some (.int .i64 0) := (blk_cell BK164.out 1).trans rfl; have hfz43_0 := blk_frozen BK164.out 0; have hfz43_1 := blk_frozen BK164.out 1))
           go_ret
           exact ⟨by first | rfl | (simp [errW_none, errW_some] <;> rfl) | (simp [*, errW_none, errW_some] <;> rfl), by repeat (first | (with_reducible first | exact HB.out | apply below_alloc | apply pw_below_drewN | apply below_drew1 | refine below_set ?_ GE163.out | refine below_set ?_ GE164.out) | exact HB.out)⟩
         rw [if_pos c31] at H
         have c31b0 : (t159 == 0) = true := beq_iff_eq.mpr c31
         have c31b1 : (t159 != 0) = false := bne_eq_false_iff_eq.mpr c31
         clear c31
         obtain rfl := Option.some.inj H
         have p157 : 0 ≤ (0 : Int) := (by omega)
         have q157 : 0 < (l0.length : Int) := dt_
         obtain ⟨ad157, A157_1, c157_1, e157, hx157_0, hx157_1, hx157_2, hx157_3, hl157_1, hi157_1⟩ := at0_T53 HR0.out q157
         cases e157
         have qi157 : (0 < l0.length) = True := eq_true (by omega)
         replace hx157_0 := bc_ HB.out hx157_0
         replace hx157_1 := bc_ HB.out hx157_1
         replace hx157_2 := bc_ HB.out hx157_2
         replace hx157_3 := bc_ HB.out hx157_3
         have HR157_1 := mkA hi157_1
         have HC157_1 := mkA hl157_1
         clear hi157_1 hl157_1
         replace p157 := eq_true p157
         replace q157 := eq_true q157
         have p158 : 0 ≤ (0 : Int) := (by omega)
         have q158 : 0 < (l0.length : Int) := dt_
         obtain ⟨ad158, A158_1, c158_1, e158, hx158_0, hx158_1, hx158_2, hx158_3, hl158_1, hi158_1⟩ := at0_T53 HR0.out q158
         obtain rfl : ad157 = ad158 := (by injection e158)
         have qi158 : (0 < l0.length) = True := eq_true (by omega)
         replace hx158_0 := bc_ HB.out hx158_0
         replace hx158_1 := bc_ HB.out hx158_1
         replace hx158_2 := bc_ HB.out hx158_2
         replace hx158_3 := bc_ HB.out hx158_3
         have HR158_1 := mkA hi158_1
         have HC158_1 := mkA hl158_1
         clear hi158_1 hl158_1
         replace p158 := eq_true p158
         replace q158 := eq_true q158
         have ea_ := Option.some.inj (hx157_1.symm.trans hx158_1)
         injection ea_ with ea_ en_ ec_
         subst ea_
         subst ec_
         clear en_
         go_wp2_with (first | ((with_reducible refine gate_callee (f := 93) rfl ?_); refine goesL_ (some 95) rfl rfl Try.func93 (by kernel_rfl) rfl #[.slice A157_1 ((rd_T53 l0 0).f1).length c157_1] rfl (by (try simp only [List.map_toArray, List.map_cons, List.map_nil]); first | done | rfl | (simp only [List.length_drop, List.length_take]; rfl)) ?_; (with_reducible refine (spec_l03Bounds.calls k2 _ _ ((rd_T53 l0 0).f1) t159 t160 t161 t162 _ ?side1 ?side2 A30.out).mono ?_); (case side1 => exact cb_ HR158_1.out HB.out); (case side2 => exact HC158_1.out); rintro e w32 ⟨rfl, hb⟩; refine ⟨_, rfl, ?_⟩; have n0_ := mkA (below_step (bs0_ HB.out) hb); clear HB; have HB := n0_; clear n0_; (try clear hb); (try clear hb2); (try clear hk); (try clear hi)) | ((with_reducible refine gate_dst (N := 4) rfl ?_); (try (refine gate_guard (by rfl) ?_; dsimp only)); refine box_event ?hg (N := 4) ?hd (cs := #[.int .i64 0, .int .i64 0]) (t := 105) ?hr ?_; (case hd => rfl); (case hg => rfl); (case hr => first | (go_simp; done) | (go_simp; rfl)); intro gb163 hg w33 hbox hb; have n0_ := mkA (below_step (bs0_ HB.out) hb); have n1_ := mkA (hbox); have n2_ := mkA ((by rw [hg]; exact (below_size (bs0_ HB.out)) : w.heap.size ≤ gb163)); have n3_ := mkA ((by rw [hg]; exact (below_size (bs0_ HB.out)) : w.heap.size ≤ gb163)); clear HB; have HB := n0_; have BK163 := n1_; have GW163 := n2_; have GE163 := n3_; clear n0_ n1_ n2_ n3_; clear hb hbox hg) | ((with_reducible refine gate_dst (N := 5) rfl ?_); (try (refine gate_guard (by rfl) ?_; dsimp only)); refine box_event ?hg (N := 5) ?hd (cs := #[.int .i64 0, .int .i64 0]) (t := 105) ?hr ?_; (case hd => rfl); (case hg => rfl); (case hr => first | (go_simp; done) | (go_simp; rfl)); intro gb164 hg w34 hbox hb; have n0_ := mkA (blk_below (g := gb163) (o := .cells #[.int .i64 0, .int .i64 0] 105 (0, 0)) (bl_ BK163.out) hb); have n1_ := mkA (below_step (bs1_ HB.out GE163.out) hb); have n2_ := mkA (hbox); have n3_ := mkA ((by rw [hg]; exact (below_size (bs1_ HB.out GE163.out)) : w.heap.size ≤ gb164)); have n4_ := mkA ((by rw [hg]; exact (below_size (bs1_ HB.out GE163.out)) : w.heap.size ≤ gb164)); have n5_ := mkA ((by rw [hg]; exact Nat.ne_of_lt (blk_lt (g := gb163) (o := .cells #[.int .i64 0, .int .i64 0] 105 (0, 0)) (bl_ BK163.out)) : gb163 ≠ gb164)); have n6_ := mkA ((by rw [hg]; exact Nat.ne_of_gt (blk_lt (g := gb163) (o := .cells #[.int .i64 0, .int .i64 0] 105 (0, 0)) (bl_ BK163.out)) : gb164 ≠ gb163)); clear BK163; clear HB; have BK163 := n0_; have HB := n1_; have BK164 := n2_; have GW164 := n3_; have GE164 := n4_; have NB163_164 := n5_; have NB164_163 := n6_; clear n0_ n1_ n2_ n3_ n4_ n5_ n6_; clear hb hbox hg; have hnb35 := NB163_164.out; have hnc35 := NB164_163.out; have hcz36_0 : w34.cell? ⟨gb163, 0, none⟩ = some (.int .i64 0) := (blk_cell BK163.out 0).trans rfl; have hcz36_1 : w34.cell? ⟨gb163, 1, none⟩ = some (.int .i64 0) := (blk_cell BK163.out 1).trans rfl; have hfz36_0 := blk_frozen BK163.out 0; have hfz36_1 := blk_frozen BK163.out 1; have hcz37_0 : w34.cell? ⟨gb164, 0, none⟩ = some (.int .i64 0) := (blk_cell BK164.out 0).trans rfl; have hcz37_1 : w34.cell? ⟨gb164, 1, none⟩ = some (.int .i64 0) := (blk_cell BK164.out 1).trans rfl; have hfz37_0 := blk_frozen BK164.out 0; have hfz37_1 := blk_frozen BK164.out 1))
         go_ret
         exact ⟨by first | rfl | (simp [errW_none, errW_some] <;> rfl) | (simp [*, errW_none, errW_some] <;> rfl), by repeat (first | (with_reducible first | exact HB.out | apply below_alloc | apply pw_below_drewN | apply below_drew1 | refine below_set ?_ GE163.out | refine below_set ?_ GE164.out) | exact HB.out)⟩
       rw [if_pos c11] at H
       have c11b0 : decide (x3_2 < (((rd_T53 l0 0).f1).length : Int)) = true := decide_eq_true c11
       clear c11
       by_cases c12 : 0 ≤ x3_2
       rotate_left
       · rw [if_neg c12] at H
         exact absurd H (by simp)
       rw [if_pos c12] at H
       have c12b0 : decide (0 ≤ x3_2) = true := decide_eq_true c12
       clear c12
       replace H := Option.bind_eq_some_iff.mp H
       obtain ⟨t167, A130, H⟩ := H
       replace H : (if t167 = true then ((spec_l00In.f ((rd_T105 ((rd_T53 l0 0).f1) x3_2).f1) 0 5).bind fun t170 => (if t170 = true then (if x3_2 > 0 then (if 0 ≤ (wrap64 (x3_2 - 1)) then (if (wrap64 (x3_2 - 1)) < (((rd_T53 l0 0).f1).length : Int) then ((spec_l19Before.f ((rd_T105 ((rd_T53 l0 0).f1) (wrap64 (x3_2 - 1))).f0) ((rd_T105 ((rd_T53 l0 0).f1) (wrap64 (x3_2 - 1))).f1) ((rd_T105 ((rd_T53 l0 0).f1) x3_2).f0) ((rd_T105 ((rd_T53 l0 0).f1) x3_2).f1)).bind fun t175 => (if t175 = true then (spec_l19Piece.l0 k2 (wrap64 (x3_2 + 1)) l0) else (some false))) else (none)) else (none)) else (spec_l19Piece.l0 k2 (wrap64 (x3_2 + 1)) l0)) else (some false))) else (some false)) = some r := H
       have A13 := mkA A130
       clear A130
       by_cases c14 : t167 = true
       rotate_left
       · replace c14 := Bool.eq_false_iff.mpr c14
         subst c14
         have H1 : (some false) = some r := by rw [if_neg (show ¬ (false = true) by decide)] at H; exact H
         clear H
         have H := H1
         clear H1
         obtain rfl := Option.some.inj H
         have p157 : 0 ≤ (0 : Int) := (by omega)
         have q157 : 0 < (l0.length : Int) := dt_
         obtain ⟨ad157, A157_1, c157_1, e157, hx157_0, hx157_1, hx157_2, hx157_3, hl157_1, hi157_1⟩ := at0_T53 HR0.out q157
         cases e157
         have qi157 : (0 < l0.length) = True := eq_true (by omega)
         replace hx157_0 := bc_ HB.out hx157_0
         replace hx157_1 := bc_ HB.out hx157_1
         replace hx157_2 := bc_ HB.out hx157_2
         replace hx157_3 := bc_ HB.out hx157_3
         have HR157_1 := mkA hi157_1
         have HC157_1 := mkA hl157_1
         clear hi157_1 hl157_1
         replace p157 := eq_true p157
         replace q157 := eq_true q157
         try go_wp2
         have n0_ := mkA (below_drew1 HB.out)
         clear HB
         have HB := n0_
         clear n0_
         have p165 : 0 ≤ (0 : Int) := (by omega)
         have q165 : 0 < (l0.length : Int) := dt_
         obtain ⟨ad165, A165_1, c165_1, e165, hx165_0, hx165_1, hx165_2, hx165_3, hl165_1, hi165_1⟩ := at0_T53 HR0.out q165
         have hw165_3 := hx165_3
         have hw165_2 := hx165_2
         have hw165_1 := hx165_1
         have hw165_0 := hx165_0
         obtain rfl : ad157 = ad165 := (by injection e165)
         have qi165 : (0 < l0.length) = True := eq_true (by omega)
         replace hx165_0 := bc_ HB.out hx165_0
         replace hx165_1 := bc_ HB.out hx165_1
         replace hx165_2 := bc_ HB.out hx165_2
         replace hx165_3 := bc_ HB.out hx165_3
         have HR165_1 := mkA hi165_1
         have HC165_1 := mkA hl165_1
         clear hi165_1 hl165_1
         replace p165 := eq_true p165
         replace q165 := eq_true q165
         have p166 : 0 ≤ (x3_2 : Int) := dt_
         have q166 : x3_2 < (((rd_T53 l0 0).f1).length : Int) := dt_
         obtain ⟨ad166, e166, hx166_0, hx166_1⟩ := at_T105 HR165_1.out x3_2 p166 q166
         have hw166_1 := hx166_1
         have hw166_0 := hx166_0
         cases e166
         replace hx166_0 := bc_ HB.out hx166_0
         replace hx166_1 := bc_ HB.out hx166_1
         replace p166 := eq_true p166
         replace q166 := eq_true q166
         refine start_ (n := 45) (S := fun w' => w'.cell? ad157 = some (.string ((rd_T53 l0 0).f0)) ∧ w'.cell? ⟨ad157.block, ad157.off + 1, none⟩ = some (.slice (some ad166) ((rd_T53 l0 0).f1).length c165_1) ∧ w'.cell? ⟨ad157.block, ad157.off + 2, none⟩ = some (.int .i64 ((rd_T53 l0 0).f2)) ∧ w'.cell? ⟨ad157.block, ad157.off + 3, none⟩ = some (.bool ((rd_T53 l0 0).f3)) ∧ w'.cell? (ad166.add ((x3_2).toNat * 2)) = some (.int .i64 ((rd_T105 ((rd_T53 l0 0).f1) x3_2).f0)) ∧ w'.cell? ⟨(ad166.add ((x3_2).toNat * 2)).block, (ad166.add ((x3_2).toNat * 2)).off + 1, none⟩ = some (.int .i64 ((rd_T105 ((rd_T53 l0 0).f1) x3_2).f1))) (ds := []) spec_l19Piece.d0 (by kernel_rfl) rfl rfl ⟨(bc_ HB.out hw165_0 :), (bc_ HB.out hw165_1 :), (bc_ HB.out hw165_2 :), (bc_ HB.out hw165_3 :), (bc_ HB.out hw166_0 :), (bc_ HB.out hw166_1 :)⟩ (fun hHeld => ?_); refine with_tabW spec_l19Piece.tab6 spec_l19Piece.bits6 (fun HT_ HW_ => ?_)
         generalize wr.drew = w29 at HB HR165_1 hx165_0 hx165_1 hx165_2 hx165_3 hx166_0 hx166_1 hHeld ⊢
         refine p1_ HT_.out 0 45 spec_l19Piece.d1 ?_
         refine p1_ HT_.out 1 46 spec_l19Piece.d2 ?_
         refine p1_ HT_.out 2 47 spec_l19Piece.d3 ?_
         refine p1_ HT_.out 4 49 spec_l19Piece.d4 ?_
         refine take_ (i := 3) (N := some 48) (v := ?_) (a' := ?_) spec_l19Piece.d5 rfl rfl (take_ofW HT_.out HW_.out (by kernel_rfl)) (fun _ _ _ h => h) (Or.inl ⟨by rfl, ?_⟩) hHeld ?_ ?_
         rotate_left
         · rintro w' ⟨s0, s1, s2, s3, s4, s5⟩
           go_simp
           with_reducible rfl
         rotate_left
         · simp only [Act.put, sA, sB, sC, i64_w, i32_w]
           rfl
         refine p1_ HT_.out 5 50 spec_l19Piece.d6 ?_
         refine p1_ HT_.out 6 51 spec_l19Piece.d7 ?_
         refine take_ (i := 7) (N := some 52) (v := ?_) (a' := ?_) spec_l19Piece.d8 rfl rfl (take_ofW HT_.out HW_.out (by kernel_rfl)) (fun _ _ _ h => h) (Or.inl ⟨by rfl, ?_⟩) hHeld ?_ ?_
         rotate_left
         · rintro w' ⟨s0, s1, s2, s3, s4, s5⟩
           go_simp
           with_reducible rfl
         rotate_left
         · simp only [Act.put, sA, sB, sC, i64_w, i32_w]
           rfl
         refine one_ (i := 8) (N := some 53) spec_l19Piece.d9 rfl rfl (one_of HT_.out (by kernel_rfl)) (by decide) (fun K hK => ?_)
         refine goes_ Try.func60 (by kernel_rfl) rfl #[.int .i64 ((rd_T105 ((rd_T53 l0 0).f1) x3_2).f0), .int .i64 0, .int .i64 5] (by rfl) rfl rfl (by (try simp only [List.map_toArray, List.map_cons, List.map_nil]); first | done | rfl | (simp only [List.length_drop, List.length_take]; rfl)) ?_
         with_reducible refine (spec_l00In.calls ((rd_T105 ((rd_T53 l0 0).f1) x3_2).f0) 0 5 false _ A13.out).mono ?_
         rintro e w' ⟨rfl, ⟨nd, rfl⟩⟩
         refine ⟨_, rfl, ?_⟩
         refine hK.out _ _ ⟨(bc_ HB.out hw165_0 :), (bc_ HB.out hw165_1 :), (bc_ HB.out hw165_2 :), (bc_ HB.out hw165_3 :), (bc_ HB.out hw166_0 :), (bc_ HB.out hw166_1 :)⟩ (fun hHeld => ?_)
         clear hK K
         refine norm_ (a' := ?_) ?_ ?_
         rotate_left
         · show Act.put _ (some 53) _ = _
           simp only [Act.put, sA, sB, sC, i64_w, i32_w]
           rfl
         refine p1_ HT_.out 9 54 spec_l19Piece.d10 ?_
         refine p1_ HT_.out 10 55 spec_l19Piece.d11 ?_
         refine p0_ HT_.out 11 56 spec_l19Piece.d12 ?_
         refine p0_ HT_.out 12 57 spec_l19Piece.d13 ?_
         refine p0_ HT_.out 13 58 spec_l19Piece.d14 ?_
         refine p0_ HT_.out 14 59 spec_l19Piece.d55 ?_
         refine p0_ HT_.out 15 60 spec_l19Piece.d16 ?_
         refine p0_ HT_.out 16 61 spec_l19Piece.d17 ?_
         refine p0_ HT_.out 17 62 spec_l19Piece.d18 ?_
         refine p0_ HT_.out 18 63 spec_l19Piece.d19 ?_
         refine p0_ HT_.out 19 64 spec_l19Piece.d20 ?_
         refine p0_ HT_.out 20 65 spec_l19Piece.d21 ?_
         refine p1_ HT_.out 21 66 spec_l19Piece.d22 ?_
         refine p1_ HT_.out 22 67 spec_l19Piece.d23 ?_
         refine p0_ HT_.out 23 68 spec_l19Piece.d24 ?_
         refine p0_ HT_.out 24 69 spec_l19Piece.d25 ?_
         refine p0_ HT_.out 25 70 spec_l19Piece.d26 ?_
         refine p0_ HT_.out 26 71 spec_l19Piece.d27 ?_
         refine p0_ HT_.out 27 72 spec_l19Piece.d28 ?_
         refine p0_ HT_.out 28 73 spec_l19Piece.d29 ?_
         refine p0_ HT_.out 29 74 spec_l19Piece.d46 ?_
         refine p0_ HT_.out 30 75 spec_l19Piece.d47 ?_
         refine p0_ HT_.out 31 76 spec_l19Piece.d48 ?_
         refine p0_ HT_.out 32 77 spec_l19Piece.d49 ?_
         refine p0_ HT_.out 33 78 spec_l19Piece.d50 ?_
         refine p0_ HT_.out 34 79 spec_l19Piece.d51 ?_
         refine p0_ HT_.out 35 80 spec_l19Piece.d52 ?_
         refine p0_ HT_.out 36 81 spec_l19Piece.d53 ?_
         refine p0_ HT_.out 37 82 spec_l19Piece.d54 ?_
         refine p0_ HT_.out 38 83 spec_l19Piece.d39 ?_
         refine p0_ HT_.out 39 84 spec_l19Piece.d40 ?_
         refine p0_ HT_.out 40 85 spec_l19Piece.d41 ?_
         refine p0_ HT_.out 41 86 spec_l19Piece.d42 ?_
         refine p0_ HT_.out 42 87 spec_l19Piece.d43 ?_
         refine p0_ HT_.out 43 88 spec_l19Piece.d44 ?_
         refine p1_ HT_.out 44 89 spec_l19Piece.d45 ?_
         refine done_ (done_of HT_.out (by kernel_rfl)) ?_
         try go_wp2
         go_ret
         exact ⟨by first | rfl | (simp [errW_none, errW_some] <;> rfl) | (simp [*, errW_none, errW_some] <;> rfl), by repeat (first | (with_reducible first | exact HB.out | apply below_alloc | apply pw_below_drewN | apply below_drew1) | exact HB.out)⟩
       subst c14
       have H1 : ((spec_l00In.f ((rd_T105 ((rd_T53 l0 0).f1) x3_2).f1) 0 5).bind fun t170 => (if t170 = true then (if x3_2 > 0 then (if 0 ≤ (wrap64 (x3_2 - 1)) then (if (wrap64 (x3_2 - 1)) < (((rd_T53 l0 0).f1).length : Int) then ((spec_l19Before.f ((rd_T105 ((rd_T53 l0 0).f1) (wrap64 (x3_2 - 1))).f0) ((rd_T105 ((rd_T53 l0 0).f1) (wrap64 (x3_2 - 1))).f1) ((rd_T105 ((rd_T53 l0 0).f1) x3_2).f0) ((rd_T105 ((rd_T53 l0 0).f1) x3_2).f1)).bind fun t175 => (if t175 = true then (spec_l19Piece.l0 k2 (wrap64 (x3_2 + 1)) l0) else (some false))) else (none)) else (none)) else (spec_l19Piece.l0 k2 (wrap64 (x3_2 + 1)) l0)) else (some false))) = some r := by rw [if_pos rfl] at H; exact H
       clear H
       have H := H1
       clear H1
       replace H := Option.bind_eq_some_iff.mp H
       obtain ⟨t170, A150, H⟩ := H
       replace H : (if t170 = true then (if x3_2 > 0 then (if 0 ≤ (wrap64 (x3_2 - 1)) then (if (wrap64 (x3_2 - 1)) < (((rd_T53 l0 0).f1).length : Int) then ((spec_l19Before.f ((rd_T105 ((rd_T53 l0 0).f1) (wrap64 (x3_2 - 1))).f0) ((rd_T105 ((rd_T53 l0 0).f1) (wrap64 (x3_2 - 1))).f1) ((rd_T105 ((rd_T53 l0 0).f1) x3_2).f0) ((rd_T105 ((rd_T53 l0 0).f1) x3_2).f1)).bind fun t175 => (if t175 = true then (spec_l19Piece.l0 k2 (wrap64 (x3_2 + 1)) l0) else (some false))) else (none)) else (none)) else (spec_l19Piece.l0 k2 (wrap64 (x3_2 + 1)) l0)) else (some false)) = some r := H
       have A15 := mkA A150
       clear A150
       by_cases c16 : t170 = true
       rotate_left
       · replace c16 := Bool.eq_false_iff.mpr c16
         subst c16
         have H1 : (some false) = some r := by rw [if_neg (show ¬ (false = true) by decide)] at H; exact H
         clear H
         have H := H1
         clear H1
         obtain rfl := Option.some.inj H
         have p157 : 0 ≤ (0 : Int) := (by omega)
         have q157 : 0 < (l0.length : Int) := dt_
         obtain ⟨ad157, A157_1, c157_1, e157, hx157_0, hx157_1, hx157_2, hx157_3, hl157_1, hi157_1⟩ := at0_T53 HR0.out q157
         cases e157
         have qi157 : (0 < l0.length) = True := eq_true (by omega)
         replace hx157_0 := bc_ HB.out hx157_0
         replace hx157_1 := bc_ HB.out hx157_1
         replace hx157_2 := bc_ HB.out hx157_2
         replace hx157_3 := bc_ HB.out hx157_3
         have HR157_1 := mkA hi157_1
         have HC157_1 := mkA hl157_1
         clear hi157_1 hl157_1
         replace p157 := eq_true p157
         replace q157 := eq_true q157
         try go_wp2
         have n0_ := mkA (below_drew1 HB.out)
         clear HB
         have HB := n0_
         clear n0_
         have p165 : 0 ≤ (0 : Int) := (by omega)
         have q165 : 0 < (l0.length : Int) := dt_
         obtain ⟨ad165, A165_1, c165_1, e165, hx165_0, hx165_1, hx165_2, hx165_3, hl165_1, hi165_1⟩ := at0_T53 HR0.out q165
         have hw165_3 := hx165_3
         have hw165_2 := hx165_2
         have hw165_1 := hx165_1
         have hw165_0 := hx165_0
         obtain rfl : ad157 = ad165 := (by injection e165)
         have qi165 : (0 < l0.length) = True := eq_true (by omega)
         replace hx165_0 := bc_ HB.out hx165_0
         replace hx165_1 := bc_ HB.out hx165_1
         replace hx165_2 := bc_ HB.out hx165_2
         replace hx165_3 := bc_ HB.out hx165_3
         have HR165_1 := mkA hi165_1
         have HC165_1 := mkA hl165_1
         clear hi165_1 hl165_1
         replace p165 := eq_true p165
         replace q165 := eq_true q165
         have p166 : 0 ≤ (x3_2 : Int) := dt_
         have q166 : x3_2 < (((rd_T53 l0 0).f1).length : Int) := dt_
         obtain ⟨ad166, e166, hx166_0, hx166_1⟩ := at_T105 HR165_1.out x3_2 p166 q166
         have hw166_1 := hx166_1
         have hw166_0 := hx166_0
         cases e166
         replace hx166_0 := bc_ HB.out hx166_0
         replace hx166_1 := bc_ HB.out hx166_1
         replace p166 := eq_true p166
         replace q166 := eq_true q166
         have p168 : 0 ≤ (0 : Int) := (by omega)
         have q168 : 0 < (l0.length : Int) := dt_
         obtain ⟨ad168, A168_1, c168_1, e168, hx168_0, hx168_1, hx168_2, hx168_3, hl168_1, hi168_1⟩ := at0_T53 HR0.out q168
         have hw168_3 := hx168_3
         have hw168_2 := hx168_2
         have hw168_1 := hx168_1
         have hw168_0 := hx168_0
         obtain rfl : ad157 = ad168 := (by injection e168)
         have qi168 : (0 < l0.length) = True := eq_true (by omega)
         replace hx168_0 := bc_ HB.out hx168_0
         replace hx168_1 := bc_ HB.out hx168_1
         replace hx168_2 := bc_ HB.out hx168_2
         replace hx168_3 := bc_ HB.out hx168_3
         have HR168_1 := mkA hi168_1
         have HC168_1 := mkA hl168_1
         clear hi168_1 hl168_1
         replace p168 := eq_true p168
         replace q168 := eq_true q168
         have ea_ := Option.some.inj (hx165_1.symm.trans hx168_1)
         injection ea_ with ea_ en_ ec_
         subst ea_
         subst ec_
         clear en_
         have p169 : 0 ≤ (x3_2 : Int) := dt_
         have q169 : x3_2 < (((rd_T53 l0 0).f1).length : Int) := dt_
         obtain ⟨ad169, e169, hx169_0, hx169_1⟩ := at_T105 HR168_1.out x3_2 p169 q169
         have hw169_1 := hx169_1
         have hw169_0 := hx169_0
         obtain rfl : ad166 = ad169 := (by injection e169)
         replace hx169_0 := bc_ HB.out hx169_0
         replace hx169_1 := bc_ HB.out hx169_1
         replace p169 := eq_true p169
         replace q169 := eq_true q169
         refine start_ (n := 45) (S := fun w' => w'.cell? ad157 = some (.string ((rd_T53 l0 0).f0)) ∧ w'.cell? ⟨ad157.block, ad157.off + 1, none⟩ = some (.slice (some ad166) ((rd_T53 l0 0).f1).length c165_1) ∧ w'.cell? ⟨ad157.block, ad157.off + 2, none⟩ = some (.int .i64 ((rd_T53 l0 0).f2)) ∧ w'.cell? ⟨ad157.block, ad157.off + 3, none⟩ = some (.bool ((rd_T53 l0 0).f3)) ∧ w'.cell? (ad166.add ((x3_2).toNat * 2)) = some (.int .i64 ((rd_T105 ((rd_T53 l0 0).f1) x3_2).f0)) ∧ w'.cell? ⟨(ad166.add ((x3_2).toNat * 2)).block, (ad166.add ((x3_2).toNat * 2)).off + 1, none⟩ = some (.int .i64 ((rd_T105 ((rd_T53 l0 0).f1) x3_2).f1)) ∧ w'.cell? ad157 = some (.string ((rd_T53 l0 0).f0)) ∧ w'.cell? ⟨ad157.block, ad157.off + 1, none⟩ = some (.slice (some ad166) ((rd_T53 l0 0).f1).length c165_1) ∧ w'.cell? ⟨ad157.block, ad157.off + 2, none⟩ = some (.int .i64 ((rd_T53 l0 0).f2)) ∧ w'.cell? ⟨ad157.block, ad157.off + 3, none⟩ = some (.bool ((rd_T53 l0 0).f3)) ∧ w'.cell? (ad166.add ((x3_2).toNat * 2)) = some (.int .i64 ((rd_T105 ((rd_T53 l0 0).f1) x3_2).f0)) ∧ w'.cell? ⟨(ad166.add ((x3_2).toNat * 2)).block, (ad166.add ((x3_2).toNat * 2)).off + 1, none⟩ = some (.int .i64 ((rd_T105 ((rd_T53 l0 0).f1) x3_2).f1))) (ds := []) spec_l19Piece.d0 (by kernel_rfl) rfl rfl ⟨(bc_ HB.out hw165_0 :), (bc_ HB.out hw165_1 :), (bc_ HB.out hw165_2 :), (bc_ HB.out hw165_3 :), (bc_ HB.out hw166_0 :), (bc_ HB.out hw166_1 :), (bc_ HB.out hw168_0 :), (bc_ HB.out hw168_1 :), (bc_ HB.out hw168_2 :), (bc_ HB.out hw168_3 :), (bc_ HB.out hw169_0 :), (bc_ HB.out hw169_1 :)⟩ (fun hHeld => ?_); refine with_tabW spec_l19Piece.tab6 spec_l19Piece.bits6 (fun HT_ HW_ => ?_)
         generalize wr.drew = w28 at HB HR165_1 HR168_1 hx165_0 hx165_1 hx165_2 hx165_3 hx166_0 hx166_1 hx168_0 hx168_1 hx168_2 hx168_3 hx169_0 hx169_1 hHeld ⊢
         refine p1_ HT_.out 0 45 spec_l19Piece.d1 ?_
         refine p1_ HT_.out 1 46 spec_l19Piece.d2 ?_
         refine p1_ HT_.out 2 47 spec_l19Piece.d3 ?_
         refine p1_ HT_.out 4 49 spec_l19Piece.d4 ?_
         refine take_ (i := 3) (N := some 48) (v := ?_) (a' := ?_) spec_l19Piece.d5 rfl rfl (take_ofW HT_.out HW_.out (by kernel_rfl)) (fun _ _ _ h => h) (Or.inl ⟨by rfl, ?_⟩) hHeld ?_ ?_
         rotate_left
         · rintro w' ⟨s0, s1, s2, s3, s4, s5, s6, s7, s8, s9, s10, s11⟩
           go_simp
           with_reducible rfl
         rotate_left
         · simp only [Act.put, sA, sB, sC, i64_w, i32_w]
           rfl
         refine p1_ HT_.out 5 50 spec_l19Piece.d6 ?_
         refine p1_ HT_.out 6 51 spec_l19Piece.d7 ?_
         refine take_ (i := 7) (N := some 52) (v := ?_) (a' := ?_) spec_l19Piece.d8 rfl rfl (take_ofW HT_.out HW_.out (by kernel_rfl)) (fun _ _ _ h => h) (Or.inl ⟨by rfl, ?_⟩) hHeld ?_ ?_
         rotate_left
         · rintro w' ⟨s0, s1, s2, s3, s4, s5, s6, s7, s8, s9, s10, s11⟩
           go_simp
           with_reducible rfl
         rotate_left
         · simp only [Act.put, sA, sB, sC, i64_w, i32_w]
           rfl
         refine one_ (i := 8) (N := some 53) spec_l19Piece.d9 rfl rfl (one_of HT_.out (by kernel_rfl)) (by decide) (fun K hK => ?_)
         refine goes_ Try.func60 (by kernel_rfl) rfl #[.int .i64 ((rd_T105 ((rd_T53 l0 0).f1) x3_2).f0), .int .i64 0, .int .i64 5] (by rfl) rfl rfl (by (try simp only [List.map_toArray, List.map_cons, List.map_nil]); first | done | rfl | (simp only [List.length_drop, List.length_take]; rfl)) ?_
         with_reducible refine (spec_l00In.calls ((rd_T105 ((rd_T53 l0 0).f1) x3_2).f0) 0 5 true _ A13.out).mono ?_
         rintro e w' ⟨rfl, ⟨nd, rfl⟩⟩
         refine ⟨_, rfl, ?_⟩
         refine hK.out _ _ ⟨(bc_ HB.out hw165_0 :), (bc_ HB.out hw165_1 :), (bc_ HB.out hw165_2 :), (bc_ HB.out hw165_3 :), (bc_ HB.out hw166_0 :), (bc_ HB.out hw166_1 :), (bc_ HB.out hw168_0 :), (bc_ HB.out hw168_1 :), (bc_ HB.out hw168_2 :), (bc_ HB.out hw168_3 :), (bc_ HB.out hw169_0 :), (bc_ HB.out hw169_1 :)⟩ (fun hHeld => ?_)
         clear hK K
         refine norm_ (a' := ?_) ?_ ?_
         rotate_left
         · show Act.put _ (some 53) _ = _
           simp only [Act.put, sA, sB, sC, i64_w, i32_w]
           rfl
         refine p1_ HT_.out 9 54 spec_l19Piece.d10 ?_
         refine p1_ HT_.out 10 55 spec_l19Piece.d11 ?_
         refine p1_ HT_.out 11 56 spec_l19Piece.d12 ?_
         refine p1_ HT_.out 12 57 spec_l19Piece.d13 ?_
         refine p1_ HT_.out 13 58 spec_l19Piece.d14 ?_
         refine p1_ HT_.out 15 60 spec_l19Piece.d15 ?_
         refine take_ (i := 14) (N := some 59) (v := ?_) (a' := ?_) spec_l19Piece.d16 rfl rfl (take_ofW HT_.out HW_.out (by kernel_rfl)) (fun _ _ _ h => h) (Or.inl ⟨by rfl, ?_⟩) hHeld ?_ ?_
         rotate_left
         · rintro w' ⟨s0, s1, s2, s3, s4, s5, s6, s7, s8, s9, s10, s11⟩
           go_simp
           with_reducible rfl
         rotate_left
         · simp only [Act.put, sA, sB, sC, i64_w, i32_w]
           rfl
         refine p1_ HT_.out 16 61 spec_l19Piece.d17 ?_
         refine p1_ HT_.out 17 62 spec_l19Piece.d18 ?_
         refine take_ (i := 18) (N := some 63) (v := ?_) (a' := ?_) spec_l19Piece.d19 rfl rfl (take_ofW HT_.out HW_.out (by kernel_rfl)) (fun _ _ _ h => h) (Or.inl ⟨by rfl, ?_⟩) hHeld ?_ ?_
         rotate_left
         · rintro w' ⟨s0, s1, s2, s3, s4, s5, s6, s7, s8, s9, s10, s11⟩
           go_simp
           with_reducible rfl
         rotate_left
         · simp only [Act.put, sA, sB, sC, i64_w, i32_w]
           rfl
         refine one_ (i := 19) (N := some 64) spec_l19Piece.d20 rfl rfl (one_of HT_.out (by kernel_rfl)) (by decide) (fun K hK => ?_)
         refine goes_ Try.func60 (by kernel_rfl) rfl #[.int .i64 ((rd_T105 ((rd_T53 l0 0).f1) x3_2).f1), .int .i64 0, .int .i64 5] (by rfl) rfl rfl (by (try simp only [List.map_toArray, List.map_cons, List.map_nil]); first | done | rfl | (simp only [List.length_drop, List.length_take]; rfl)) ?_
         with_reducible refine (spec_l00In.calls ((rd_T105 ((rd_T53 l0 0).f1) x3_2).f1) 0 5 false _ A15.out).mono ?_
         rintro e w' ⟨rfl, ⟨nd, rfl⟩⟩
         refine ⟨_, rfl, ?_⟩
         refine hK.out _ _ ⟨(bc_ HB.out hw165_0 :), (bc_ HB.out hw165_1 :), (bc_ HB.out hw165_2 :), (bc_ HB.out hw165_3 :), (bc_ HB.out hw166_0 :), (bc_ HB.out hw166_1 :), (bc_ HB.out hw168_0 :), (bc_ HB.out hw168_1 :), (bc_ HB.out hw168_2 :), (bc_ HB.out hw168_3 :), (bc_ HB.out hw169_0 :), (bc_ HB.out hw169_1 :)⟩ (fun hHeld => ?_)
         clear hK K
         refine norm_ (a' := ?_) ?_ ?_
         rotate_left
         · show Act.put _ (some 64) _ = _
           simp only [Act.put, sA, sB, sC, i64_w, i32_w]
           rfl
         refine p1_ HT_.out 20 65 spec_l19Piece.d21 ?_
         refine p1_ HT_.out 21 66 spec_l19Piece.d22 ?_
         refine p1_ HT_.out 22 67 spec_l19Piece.d23 ?_
         refine p0_ HT_.out 23 68 spec_l19Piece.d24 ?_
         refine p0_ HT_.out 24 69 spec_l19Piece.d25 ?_
         refine p0_ HT_.out 25 70 spec_l19Piece.d26 ?_
         refine p0_ HT_.out 26 71 spec_l19Piece.d27 ?_
         refine p0_ HT_.out 27 72 spec_l19Piece.d28 ?_
         refine p0_ HT_.out 28 73 spec_l19Piece.d29 ?_
         refine p0_ HT_.out 29 74 spec_l19Piece.d46 ?_
         refine p0_ HT_.out 30 75 spec_l19Piece.d47 ?_
         refine p0_ HT_.out 31 76 spec_l19Piece.d48 ?_
         refine p0_ HT_.out 32 77 spec_l19Piece.d49 ?_
         refine p0_ HT_.out 33 78 spec_l19Piece.d50 ?_
         refine p0_ HT_.out 34 79 spec_l19Piece.d51 ?_
         refine p0_ HT_.out 35 80 spec_l19Piece.d52 ?_
         refine p0_ HT_.out 36 81 spec_l19Piece.d53 ?_
         refine p0_ HT_.out 37 82 spec_l19Piece.d54 ?_
         refine p0_ HT_.out 38 83 spec_l19Piece.d39 ?_
         refine p0_ HT_.out 39 84 spec_l19Piece.d40 ?_
         refine p0_ HT_.out 40 85 spec_l19Piece.d41 ?_
         refine p0_ HT_.out 41 86 spec_l19Piece.d42 ?_
         refine p0_ HT_.out 42 87 spec_l19Piece.d43 ?_
         refine p0_ HT_.out 43 88 spec_l19Piece.d44 ?_
         refine p1_ HT_.out 44 89 spec_l19Piece.d45 ?_
         refine done_ (done_of HT_.out (by kernel_rfl)) ?_
         try go_wp2
         go_ret
         exact ⟨by first | rfl | (simp [errW_none, errW_some] <;> rfl) | (simp [*, errW_none, errW_some] <;> rfl), by repeat (first | (with_reducible first | exact HB.out | apply below_alloc | apply pw_below_drewN | apply below_drew1) | exact HB.out)⟩
       subst c16
       have H1 : (if x3_2 > 0 then (if 0 ≤ (wrap64 (x3_2 - 1)) then (if (wrap64 (x3_2 - 1)) < (((rd_T53 l0 0).f1).length : Int) then ((spec_l19Before.f ((rd_T105 ((rd_T53 l0 0).f1) (wrap64 (x3_2 - 1))).f0) ((rd_T105 ((rd_T53 l0 0).f1) (wrap64 (x3_2 - 1))).f1) ((rd_T105 ((rd_T53 l0 0).f1) x3_2).f0) ((rd_T105 ((rd_T53 l0 0).f1) x3_2).f1)).bind fun t175 => (if t175 = true then (spec_l19Piece.l0 k2 (wrap64 (x3_2 + 1)) l0) else (some false))) else (none)) else (none)) else (spec_l19Piece.l0 k2 (wrap64 (x3_2 + 1)) l0)) = some r := by rw [if_pos rfl] at H; exact H
       clear H
       have H := H1
       clear H1
       by_cases c17 : x3_2 > 0
       rotate_left
       · rw [if_neg c17] at H
         have c17b0 : decide (0 < x3_2) = false := decide_eq_false c17
         clear c17
         have H' := mkA H
         clear H
         have p157 : 0 ≤ (0 : Int) := (by omega)
         have q157 : 0 < (l0.length : Int) := dt_
         obtain ⟨ad157, A157_1, c157_1, e157, hx157_0, hx157_1, hx157_2, hx157_3, hl157_1, hi157_1⟩ := at0_T53 HR0.out q157
         cases e157
         have qi157 : (0 < l0.length) = True := eq_true (by omega)
         replace hx157_0 := bc_ HB.out hx157_0
         replace hx157_1 := bc_ HB.out hx157_1
         replace hx157_2 := bc_ HB.out hx157_2
         replace hx157_3 := bc_ HB.out hx157_3
         have HR157_1 := mkA hi157_1
         have HC157_1 := mkA hl157_1
         clear hi157_1 hl157_1
         replace p157 := eq_true p157
         replace q157 := eq_true q157
         try go_wp2
         have n0_ := mkA (below_drew1 HB.out)
         clear HB
         have HB := n0_
         clear n0_
         have p165 : 0 ≤ (0 : Int) := (by omega)
         have q165 : 0 < (l0.length : Int) := dt_
         obtain ⟨ad165, A165_1, c165_1, e165, hx165_0, hx165_1, hx165_2, hx165_3, hl165_1, hi165_1⟩ := at0_T53 HR0.out q165
         have hw165_3 := hx165_3
         have hw165_2 := hx165_2
         have hw165_1 := hx165_1
         have hw165_0 := hx165_0
         obtain rfl : ad157 = ad165 := (by injection e165)
         have qi165 : (0 < l0.length) = True := eq_true (by omega)
         replace hx165_0 := bc_ HB.out hx165_0
         replace hx165_1 := bc_ HB.out hx165_1
         replace hx165_2 := bc_ HB.out hx165_2
         replace hx165_3 := bc_ HB.out hx165_3
         have HR165_1 := mkA hi165_1
         have HC165_1 := mkA hl165_1
         clear hi165_1 hl165_1
         replace p165 := eq_true p165
         replace q165 := eq_true q165
         have p166 : 0 ≤ (x3_2 : Int) := dt_
         have q166 : x3_2 < (((rd_T53 l0 0).f1).length : Int) := dt_
         obtain ⟨ad166, e166, hx166_0, hx166_1⟩ := at_T105 HR165_1.out x3_2 p166 q166
         have hw166_1 := hx166_1
         have hw166_0 := hx166_0
         cases e166
         replace hx166_0 := bc_ HB.out hx166_0
         replace hx166_1 := bc_ HB.out hx166_1
         replace p166 := eq_true p166
         replace q166 := eq_true q166
         have p168 : 0 ≤ (0 : Int) := (by omega)
         have q168 : 0 < (l0.length : Int) := dt_
         obtain ⟨ad168, A168_1, c168_1, e168, hx168_0, hx168_1, hx168_2, hx168_3, hl168_1, hi168_1⟩ := at0_T53 HR0.out q168
         have hw168_3 := hx168_3
         have hw168_2 := hx168_2
         have hw168_1 := hx168_1
         have hw168_0 := hx168_0
         obtain rfl : ad157 = ad168 := (by injection e168)
         have qi168 : (0 < l0.length) = True := eq_true (by omega)
         replace hx168_0 := bc_ HB.out hx168_0
         replace hx168_1 := bc_ HB.out hx168_1
         replace hx168_2 := bc_ HB.out hx168_2
         replace hx168_3 := bc_ HB.out hx168_3
         have HR168_1 := mkA hi168_1
         have HC168_1 := mkA hl168_1
         clear hi168_1 hl168_1
         replace p168 := eq_true p168
         replace q168 := eq_true q168
         have ea_ := Option.some.inj (hx165_1.symm.trans hx168_1)
         injection ea_ with ea_ en_ ec_
         subst ea_
         subst ec_
         clear en_
         have p169 : 0 ≤ (x3_2 : Int) := dt_
         have q169 : x3_2 < (((rd_T53 l0 0).f1).length : Int) := dt_
         obtain ⟨ad169, e169, hx169_0, hx169_1⟩ := at_T105 HR168_1.out x3_2 p169 q169
         have hw169_1 := hx169_1
         have hw169_0 := hx169_0
         obtain rfl : ad166 = ad169 := (by injection e169)
         replace hx169_0 := bc_ HB.out hx169_0
         replace hx169_1 := bc_ HB.out hx169_1
         replace p169 := eq_true p169
         replace q169 := eq_true q169
         refine start_ (n := 45) (S := fun w' => w'.cell? ad157 = some (.string ((rd_T53 l0 0).f0)) ∧ w'.cell? ⟨ad157.block, ad157.off + 1, none⟩ = some (.slice (some ad166) ((rd_T53 l0 0).f1).length c165_1) ∧ w'.cell? ⟨ad157.block, ad157.off + 2, none⟩ = some (.int .i64 ((rd_T53 l0 0).f2)) ∧ w'.cell? ⟨ad157.block, ad157.off + 3, none⟩ = some (.bool ((rd_T53 l0 0).f3)) ∧ w'.cell? (ad166.add ((x3_2).toNat * 2)) = some (.int .i64 ((rd_T105 ((rd_T53 l0 0).f1) x3_2).f0)) ∧ w'.cell? ⟨(ad166.add ((x3_2).toNat * 2)).block, (ad166.add ((x3_2).toNat * 2)).off + 1, none⟩ = some (.int .i64 ((rd_T105 ((rd_T53 l0 0).f1) x3_2).f1)) ∧ w'.cell? ad157 = some (.string ((rd_T53 l0 0).f0)) ∧ w'.cell? ⟨ad157.block, ad157.off + 1, none⟩ = some (.slice (some ad166) ((rd_T53 l0 0).f1).length c165_1) ∧ w'.cell? ⟨ad157.block, ad157.off + 2, none⟩ = some (.int .i64 ((rd_T53 l0 0).f2)) ∧ w'.cell? ⟨ad157.block, ad157.off + 3, none⟩ = some (.bool ((rd_T53 l0 0).f3)) ∧ w'.cell? (ad166.add ((x3_2).toNat * 2)) = some (.int .i64 ((rd_T105 ((rd_T53 l0 0).f1) x3_2).f0)) ∧ w'.cell? ⟨(ad166.add ((x3_2).toNat * 2)).block, (ad166.add ((x3_2).toNat * 2)).off + 1, none⟩ = some (.int .i64 ((rd_T105 ((rd_T53 l0 0).f1) x3_2).f1))) (ds := []) spec_l19Piece.d0 (by kernel_rfl) rfl rfl ⟨(bc_ HB.out hw165_0 :), (bc_ HB.out hw165_1 :), (bc_ HB.out hw165_2 :), (bc_ HB.out hw165_3 :), (bc_ HB.out hw166_0 :), (bc_ HB.out hw166_1 :), (bc_ HB.out hw168_0 :), (bc_ HB.out hw168_1 :), (bc_ HB.out hw168_2 :), (bc_ HB.out hw168_3 :), (bc_ HB.out hw169_0 :), (bc_ HB.out hw169_1 :)⟩ (fun hHeld => ?_); refine with_tabW spec_l19Piece.tab6 spec_l19Piece.bits6 (fun HT_ HW_ => ?_)
         generalize wr.drew = w27 at HB HR165_1 HR168_1 hx165_0 hx165_1 hx165_2 hx165_3 hx166_0 hx166_1 hx168_0 hx168_1 hx168_2 hx168_3 hx169_0 hx169_1 hHeld ⊢
         refine p1_ HT_.out 0 45 spec_l19Piece.d1 ?_
         refine p1_ HT_.out 1 46 spec_l19Piece.d2 ?_
         refine p1_ HT_.out 2 47 spec_l19Piece.d3 ?_
         refine p1_ HT_.out 4 49 spec_l19Piece.d4 ?_
         refine take_ (i := 3) (N := some 48) (v := ?_) (a' := ?_) spec_l19Piece.d5 rfl rfl (take_ofW HT_.out HW_.out (by kernel_rfl)) (fun _ _ _ h => h) (Or.inl ⟨by rfl, ?_⟩) hHeld ?_ ?_
         rotate_left
         · rintro w' ⟨s0, s1, s2, s3, s4, s5, s6, s7, s8, s9, s10, s11⟩
           go_simp
           with_reducible rfl
         rotate_left
         · simp only [Act.put, sA, sB, sC, i64_w, i32_w]
           rfl
         refine p1_ HT_.out 5 50 spec_l19Piece.d6 ?_
         refine p1_ HT_.out 6 51 spec_l19Piece.d7 ?_
         refine take_ (i := 7) (N := some 52) (v := ?_) (a' := ?_) spec_l19Piece.d8 rfl rfl (take_ofW HT_.out HW_.out (by kernel_rfl)) (fun _ _ _ h => h) (Or.inl ⟨by rfl, ?_⟩) hHeld ?_ ?_
         rotate_left
         · rintro w' ⟨s0, s1, s2, s3, s4, s5, s6, s7, s8, s9, s10, s11⟩
           go_simp
           with_reducible rfl
         rotate_left
         · simp only [Act.put, sA, sB, sC, i64_w, i32_w]
           rfl
         refine one_ (i := 8) (N := some 53) spec_l19Piece.d9 rfl rfl (one_of HT_.out (by kernel_rfl)) (by decide) (fun K hK => ?_)
         refine goes_ Try.func60 (by kernel_rfl) rfl #[.int .i64 ((rd_T105 ((rd_T53 l0 0).f1) x3_2).f0), .int .i64 0, .int .i64 5] (by rfl) rfl rfl (by (try simp only [List.map_toArray, List.map_cons, List.map_nil]); first | done | rfl | (simp only [List.length_drop, List.length_take]; rfl)) ?_
         with_reducible refine (spec_l00In.calls ((rd_T105 ((rd_T53 l0 0).f1) x3_2).f0) 0 5 true _ A13.out).mono ?_
         rintro e w' ⟨rfl, ⟨nd, rfl⟩⟩
         refine ⟨_, rfl, ?_⟩
         refine hK.out _ _ ⟨(bc_ HB.out hw165_0 :), (bc_ HB.out hw165_1 :), (bc_ HB.out hw165_2 :), (bc_ HB.out hw165_3 :), (bc_ HB.out hw166_0 :), (bc_ HB.out hw166_1 :), (bc_ HB.out hw168_0 :), (bc_ HB.out hw168_1 :), (bc_ HB.out hw168_2 :), (bc_ HB.out hw168_3 :), (bc_ HB.out hw169_0 :), (bc_ HB.out hw169_1 :)⟩ (fun hHeld => ?_)
         clear hK K
         refine norm_ (a' := ?_) ?_ ?_
         rotate_left
         · show Act.put _ (some 53) _ = _
           simp only [Act.put, sA, sB, sC, i64_w, i32_w]
           rfl
         refine p1_ HT_.out 9 54 spec_l19Piece.d10 ?_
         refine p1_ HT_.out 10 55 spec_l19Piece.d11 ?_
         refine p1_ HT_.out 11 56 spec_l19Piece.d12 ?_
         refine p1_ HT_.out 12 57 spec_l19Piece.d13 ?_
         refine p1_ HT_.out 13 58 spec_l19Piece.d14 ?_
         refine p1_ HT_.out 15 60 spec_l19Piece.d15 ?_
         refine take_ (i := 14) (N := some 59) (v := ?_) (a' := ?_) spec_l19Piece.d16 rfl rfl (take_ofW HT_.out HW_.out (by kernel_rfl)) (fun _ _ _ h => h) (Or.inl ⟨by rfl, ?_⟩) hHeld ?_ ?_
         rotate_left
         · rintro w' ⟨s0, s1, s2, s3, s4, s5, s6, s7, s8, s9, s10, s11⟩
           go_simp
           with_reducible rfl
         rotate_left
         · simp only [Act.put, sA, sB, sC, i64_w, i32_w]
           rfl
         refine p1_ HT_.out 16 61 spec_l19Piece.d17 ?_
         refine p1_ HT_.out 17 62 spec_l19Piece.d18 ?_
         refine take_ (i := 18) (N := some 63) (v := ?_) (a' := ?_) spec_l19Piece.d19 rfl rfl (take_ofW HT_.out HW_.out (by kernel_rfl)) (fun _ _ _ h => h) (Or.inl ⟨by rfl, ?_⟩) hHeld ?_ ?_
         rotate_left
         · rintro w' ⟨s0, s1, s2, s3, s4, s5, s6, s7, s8, s9, s10, s11⟩
           go_simp
           with_reducible rfl
         rotate_left
         · simp only [Act.put, sA, sB, sC, i64_w, i32_w]
           rfl
         refine one_ (i := 19) (N := some 64) spec_l19Piece.d20 rfl rfl (one_of HT_.out (by kernel_rfl)) (by decide) (fun K hK => ?_)
         refine goes_ Try.func60 (by kernel_rfl) rfl #[.int .i64 ((rd_T105 ((rd_T53 l0 0).f1) x3_2).f1), .int .i64 0, .int .i64 5] (by rfl) rfl rfl (by (try simp only [List.map_toArray, List.map_cons, List.map_nil]); first | done | rfl | (simp only [List.length_drop, List.length_take]; rfl)) ?_
         with_reducible refine (spec_l00In.calls ((rd_T105 ((rd_T53 l0 0).f1) x3_2).f1) 0 5 true _ A15.out).mono ?_
         rintro e w' ⟨rfl, ⟨nd, rfl⟩⟩
         refine ⟨_, rfl, ?_⟩
         refine hK.out _ _ ⟨(bc_ HB.out hw165_0 :), (bc_ HB.out hw165_1 :), (bc_ HB.out hw165_2 :), (bc_ HB.out hw165_3 :), (bc_ HB.out hw166_0 :), (bc_ HB.out hw166_1 :), (bc_ HB.out hw168_0 :), (bc_ HB.out hw168_1 :), (bc_ HB.out hw168_2 :), (bc_ HB.out hw168_3 :), (bc_ HB.out hw169_0 :), (bc_ HB.out hw169_1 :)⟩ (fun hHeld => ?_)
         clear hK K
         refine norm_ (a' := ?_) ?_ ?_
         rotate_left
         · show Act.put _ (some 64) _ = _
           simp only [Act.put, sA, sB, sC, i64_w, i32_w]
           rfl
         refine p1_ HT_.out 20 65 spec_l19Piece.d21 ?_
         refine p1_ HT_.out 21 66 spec_l19Piece.d22 ?_
         refine p1_ HT_.out 22 67 spec_l19Piece.d23 ?_
         refine p1_ HT_.out 23 68 spec_l19Piece.d24 ?_
         refine p1_ HT_.out 24 69 spec_l19Piece.d25 ?_
         refine p1_ HT_.out 25 70 spec_l19Piece.d26 ?_
         refine p0_ HT_.out 26 71 spec_l19Piece.d27 ?_
         refine p0_ HT_.out 27 72 spec_l19Piece.d28 ?_
         refine p0_ HT_.out 28 73 spec_l19Piece.d29 ?_
         refine p0_ HT_.out 29 74 spec_l19Piece.d46 ?_
         refine p0_ HT_.out 30 75 spec_l19Piece.d47 ?_
         refine p0_ HT_.out 31 76 spec_l19Piece.d48 ?_
         refine p0_ HT_.out 32 77 spec_l19Piece.d49 ?_
         refine p0_ HT_.out 33 78 spec_l19Piece.d50 ?_
         refine p0_ HT_.out 34 79 spec_l19Piece.d51 ?_
         refine p0_ HT_.out 35 80 spec_l19Piece.d52 ?_
         refine p0_ HT_.out 36 81 spec_l19Piece.d53 ?_
         refine p0_ HT_.out 37 82 spec_l19Piece.d54 ?_
         refine p0_ HT_.out 38 83 spec_l19Piece.d39 ?_
         refine p0_ HT_.out 39 84 spec_l19Piece.d40 ?_
         refine p0_ HT_.out 40 85 spec_l19Piece.d41 ?_
         refine p0_ HT_.out 41 86 spec_l19Piece.d42 ?_
         refine p0_ HT_.out 42 87 spec_l19Piece.d43 ?_
         refine p1_ HT_.out 43 88 spec_l19Piece.d44 ?_
         refine p1_ HT_.out 44 89 spec_l19Piece.d45 ?_
         refine done_ (done_of HT_.out (by kernel_rfl)) ?_
         try go_wp2
         go_roundg k2
         case measure => have := HJ1.out; have := HK2.out; omega
         case rel => exact ⟨(wrap64 (x3_2 + 1)), (by first | rfl | (simp; done) | (simp [*]; done) | (simp [i64_w, i32_w]; done)), H', ⟨by have := HJ1.out; have := HK2.out; omega⟩, ⟨by repeat (first | (with_reducible first | exact HB.out | apply below_alloc | apply pw_below_drewN | apply below_drew1) | exact HB.out)⟩⟩
       rw [if_pos c17] at H
       have c17b0 : decide (0 < x3_2) = true := decide_eq_true c17
       clear c17
       obtain ⟨ji18, hji18⟩ : ∃ j_ : Int, (wrap64 (x3_2 - 1)) = j_ := ⟨_, rfl⟩
       replace H : (if 0 ≤ (ji18) then (if (ji18) < (((rd_T53 l0 0).f1).length : Int) then ((spec_l19Before.f ((rd_T105 ((rd_T53 l0 0).f1) (ji18)).f0) ((rd_T105 ((rd_T53 l0 0).f1) (ji18)).f1) ((rd_T105 ((rd_T53 l0 0).f1) x3_2).f0) ((rd_T105 ((rd_T53 l0 0).f1) x3_2).f1)).bind fun t175 => (if t175 = true then (spec_l19Piece.l0 k2 (wrap64 (x3_2 + 1)) l0) else (some false))) else (none)) else (none)) = some r := by first | (rw [hji18] at H; exact H) | (simp only [hji18] at H ⊢; exact H)
       (try rw [hji18] at A13)
       (try rw [hji18] at A15)
       have hji18w : (IntKind.i64.wrap (x3_2 - 1)) = ji18 := (i64_w _).trans hji18
       by_cases c19 : 0 ≤ (ji18)
       rotate_left
       · rw [if_neg c19] at H
         exact absurd H (by simp)
       rw [if_pos c19] at H
       have c19b0 : decide (0 ≤ (ji18)) = true := decide_eq_true c19
       clear c19
       by_cases c20 : (ji18) < (((rd_T53 l0 0).f1).length : Int)
       rotate_left
       · rw [if_neg c20] at H
         exact absurd H (by simp)
       rw [if_pos c20] at H
       have c20b0 : decide ((ji18) < (((rd_T53 l0 0).f1).length : Int)) = true := decide_eq_true c20
       clear c20
       replace H := Option.bind_eq_some_iff.mp H
       obtain ⟨t175, A210, H⟩ := H
       replace H : (if t175 = true then (spec_l19Piece.l0 k2 (wrap64 (x3_2 + 1)) l0) else (some false)) = some r := H
       have A21 := mkA A210
       clear A210
       by_cases c22 : t175 = true
       rotate_left
       · replace c22 := Bool.eq_false_iff.mpr c22
         subst c22
         have H1 : (some false) = some r := by rw [if_neg (show ¬ (false = true) by decide)] at H; exact H
         clear H
         have H := H1
         clear H1
         obtain rfl := Option.some.inj H
         have p157 : 0 ≤ (0 : Int) := (by omega)
         have q157 : 0 < (l0.length : Int) := dt_
         obtain ⟨ad157, A157_1, c157_1, e157, hx157_0, hx157_1, hx157_2, hx157_3, hl157_1, hi157_1⟩ := at0_T53 HR0.out q157
         cases e157
         have qi157 : (0 < l0.length) = True := eq_true (by omega)
         replace hx157_0 := bc_ HB.out hx157_0
         replace hx157_1 := bc_ HB.out hx157_1
         replace hx157_2 := bc_ HB.out hx157_2
         replace hx157_3 := bc_ HB.out hx157_3
         have HR157_1 := mkA hi157_1
         have HC157_1 := mkA hl157_1
         clear hi157_1 hl157_1
         replace p157 := eq_true p157
         replace q157 := eq_true q157
         try go_wp2
         have n0_ := mkA (below_drew1 HB.out)
         clear HB
         have HB := n0_
         clear n0_
         have p165 : 0 ≤ (0 : Int) := (by omega)
         have q165 : 0 < (l0.length : Int) := dt_
         obtain ⟨ad165, A165_1, c165_1, e165, hx165_0, hx165_1, hx165_2, hx165_3, hl165_1, hi165_1⟩ := at0_T53 HR0.out q165
         have hw165_3 := hx165_3
         have hw165_2 := hx165_2
         have hw165_1 := hx165_1
         have hw165_0 := hx165_0
         obtain rfl : ad157 = ad165 := (by injection e165)
         have qi165 : (0 < l0.length) = True := eq_true (by omega)
         replace hx165_0 := bc_ HB.out hx165_0
         replace hx165_1 := bc_ HB.out hx165_1
         replace hx165_2 := bc_ HB.out hx165_2
         replace hx165_3 := bc_ HB.out hx165_3
         have HR165_1 := mkA hi165_1
         have HC165_1 := mkA hl165_1
         clear hi165_1 hl165_1
         replace p165 := eq_true p165
         replace q165 := eq_true q165
         have p166 : 0 ≤ (x3_2 : Int) := dt_
         have q166 : x3_2 < (((rd_T53 l0 0).f1).length : Int) := dt_
         obtain ⟨ad166, e166, hx166_0, hx166_1⟩ := at_T105 HR165_1.out x3_2 p166 q166
         have hw166_1 := hx166_1
         have hw166_0 := hx166_0
         cases e166
         replace hx166_0 := bc_ HB.out hx166_0
         replace hx166_1 := bc_ HB.out hx166_1
         replace p166 := eq_true p166
         replace q166 := eq_true q166
         have p168 : 0 ≤ (0 : Int) := (by omega)
         have q168 : 0 < (l0.length : Int) := dt_
         obtain ⟨ad168, A168_1, c168_1, e168, hx168_0, hx168_1, hx168_2, hx168_3, hl168_1, hi168_1⟩ := at0_T53 HR0.out q168
         have hw168_3 := hx168_3
         have hw168_2 := hx168_2
         have hw168_1 := hx168_1
         have hw168_0 := hx168_0
         obtain rfl : ad157 = ad168 := (by injection e168)
         have qi168 : (0 < l0.length) = True := eq_true (by omega)
         replace hx168_0 := bc_ HB.out hx168_0
         replace hx168_1 := bc_ HB.out hx168_1
         replace hx168_2 := bc_ HB.out hx168_2
         replace hx168_3 := bc_ HB.out hx168_3
         have HR168_1 := mkA hi168_1
         have HC168_1 := mkA hl168_1
         clear hi168_1 hl168_1
         replace p168 := eq_true p168
         replace q168 := eq_true q168
         have ea_ := Option.some.inj (hx165_1.symm.trans hx168_1)
         injection ea_ with ea_ en_ ec_
         subst ea_
         subst ec_
         clear en_
         have p169 : 0 ≤ (x3_2 : Int) := dt_
         have q169 : x3_2 < (((rd_T53 l0 0).f1).length : Int) := dt_
         obtain ⟨ad169, e169, hx169_0, hx169_1⟩ := at_T105 HR168_1.out x3_2 p169 q169
         have hw169_1 := hx169_1
         have hw169_0 := hx169_0
         obtain rfl : ad166 = ad169 := (by injection e169)
         replace hx169_0 := bc_ HB.out hx169_0
         replace hx169_1 := bc_ HB.out hx169_1
         replace p169 := eq_true p169
         replace q169 := eq_true q169
         have p171 : 0 ≤ (0 : Int) := (by omega)
         have q171 : 0 < (l0.length : Int) := dt_
         obtain ⟨ad171, A171_1, c171_1, e171, hx171_0, hx171_1, hx171_2, hx171_3, hl171_1, hi171_1⟩ := at0_T53 HR0.out q171
         have hw171_3 := hx171_3
         have hw171_2 := hx171_2
         have hw171_1 := hx171_1
         have hw171_0 := hx171_0
         obtain rfl : ad157 = ad171 := (by injection e171)
         have qi171 : (0 < l0.length) = True := eq_true (by omega)
         replace hx171_0 := bc_ HB.out hx171_0
         replace hx171_1 := bc_ HB.out hx171_1
         replace hx171_2 := bc_ HB.out hx171_2
         replace hx171_3 := bc_ HB.out hx171_3
         have HR171_1 := mkA hi171_1
         have HC171_1 := mkA hl171_1
         clear hi171_1 hl171_1
         replace p171 := eq_true p171
         replace q171 := eq_true q171
         have ea_ := Option.some.inj (hx165_1.symm.trans hx171_1)
         injection ea_ with ea_ en_ ec_
         subst ea_
         subst ec_
         clear en_
         have p172 : 0 ≤ ((ji18) : Int) := dt_
         have q172 : (ji18) < (((rd_T53 l0 0).f1).length : Int) := dt_
         obtain ⟨ad172, e172, hx172_0, hx172_1⟩ := at_T105 HR171_1.out (ji18) p172 q172
         have hw172_1 := hx172_1
         have hw172_0 := hx172_0
         obtain rfl : ad166 = ad172 := (by injection e172)
         replace hx172_0 := bc_ HB.out hx172_0
         replace hx172_1 := bc_ HB.out hx172_1
         replace p172 := eq_true p172
         replace q172 := eq_true q172
         have p173 : 0 ≤ (0 : Int) := (by omega)
         have q173 : 0 < (l0.length : Int) := dt_
         obtain ⟨ad173, A173_1, c173_1, e173, hx173_0, hx173_1, hx173_2, hx173_3, hl173_1, hi173_1⟩ := at0_T53 HR0.out q173
         have hw173_3 := hx173_3
         have hw173_2 := hx173_2
         have hw173_1 := hx173_1
         have hw173_0 := hx173_0
         obtain rfl : ad157 = ad173 := (by injection e173)
         have qi173 : (0 < l0.length) = True := eq_true (by omega)
         replace hx173_0 := bc_ HB.out hx173_0
         replace hx173_1 := bc_ HB.out hx173_1
         replace hx173_2 := bc_ HB.out hx173_2
         replace hx173_3 := bc_ HB.out hx173_3
         have HR173_1 := mkA hi173_1
         have HC173_1 := mkA hl173_1
         clear hi173_1 hl173_1
         replace p173 := eq_true p173
         replace q173 := eq_true q173
         have ea_ := Option.some.inj (hx165_1.symm.trans hx173_1)
         injection ea_ with ea_ en_ ec_
         subst ea_
         subst ec_
         clear en_
         have p174 : 0 ≤ (x3_2 : Int) := dt_
         have q174 : x3_2 < (((rd_T53 l0 0).f1).length : Int) := dt_
         obtain ⟨ad174, e174, hx174_0, hx174_1⟩ := at_T105 HR173_1.out x3_2 p174 q174
         have hw174_1 := hx174_1
         have hw174_0 := hx174_0
         obtain rfl : ad166 = ad174 := (by injection e174)
         replace hx174_0 := bc_ HB.out hx174_0
         replace hx174_1 := bc_ HB.out hx174_1
         replace p174 := eq_true p174
         replace q174 := eq_true q174
         refine start_ (n := 45) (S := fun w' => w'.cell? ad157 = some (.string ((rd_T53 l0 0).f0)) ∧ w'.cell? ⟨ad157.block, ad157.off + 1, none⟩ = some (.slice (some ad166) ((rd_T53 l0 0).f1).length c165_1) ∧ w'.cell? ⟨ad157.block, ad157.off + 2, none⟩ = some (.int .i64 ((rd_T53 l0 0).f2)) ∧ w'.cell? ⟨ad157.block, ad157.off + 3, none⟩ = some (.bool ((rd_T53 l0 0).f3)) ∧ w'.cell? (ad166.add ((x3_2).toNat * 2)) = some (.int .i64 ((rd_T105 ((rd_T53 l0 0).f1) x3_2).f0)) ∧ w'.cell? ⟨(ad166.add ((x3_2).toNat * 2)).block, (ad166.add ((x3_2).toNat * 2)).off + 1, none⟩ = some (.int .i64 ((rd_T105 ((rd_T53 l0 0).f1) x3_2).f1)) ∧ w'.cell? ad157 = some (.string ((rd_T53 l0 0).f0)) ∧ w'.cell? ⟨ad157.block, ad157.off + 1, none⟩ = some (.slice (some ad166) ((rd_T53 l0 0).f1).length c165_1) ∧ w'.cell? ⟨ad157.block, ad157.off + 2, none⟩ = some (.int .i64 ((rd_T53 l0 0).f2)) ∧ w'.cell? ⟨ad157.block, ad157.off + 3, none⟩ = some (.bool ((rd_T53 l0 0).f3)) ∧ w'.cell? (ad166.add ((x3_2).toNat * 2)) = some (.int .i64 ((rd_T105 ((rd_T53 l0 0).f1) x3_2).f0)) ∧ w'.cell? ⟨(ad166.add ((x3_2).toNat * 2)).block, (ad166.add ((x3_2).toNat * 2)).off + 1, none⟩ = some (.int .i64 ((rd_T105 ((rd_T53 l0 0).f1) x3_2).f1)) ∧ w'.cell? ad157 = some (.string ((rd_T53 l0 0).f0)) ∧ w'.cell? ⟨ad157.block, ad157.off + 1, none⟩ = some (.slice (some ad166) ((rd_T53 l0 0).f1).length c165_1) ∧ w'.cell? ⟨ad157.block, ad157.off + 2, none⟩ = some (.int .i64 ((rd_T53 l0 0).f2)) ∧ w'.cell? ⟨ad157.block, ad157.off + 3, none⟩ = some (.bool ((rd_T53 l0 0).f3)) ∧ w'.cell? (ad166.add (((ji18)).toNat * 2)) = some (.int .i64 ((rd_T105 ((rd_T53 l0 0).f1) (ji18)).f0)) ∧ w'.cell? ⟨(ad166.add (((ji18)).toNat * 2)).block, (ad166.add (((ji18)).toNat * 2)).off + 1, none⟩ = some (.int .i64 ((rd_T105 ((rd_T53 l0 0).f1) (ji18)).f1)) ∧ w'.cell? ad157 = some (.string ((rd_T53 l0 0).f0)) ∧ w'.cell? ⟨ad157.block, ad157.off + 1, none⟩ = some (.slice (some ad166) ((rd_T53 l0 0).f1).length c165_1) ∧ w'.cell? ⟨ad157.block, ad157.off + 2, none⟩ = some (.int .i64 ((rd_T53 l0 0).f2)) ∧ w'.cell? ⟨ad157.block, ad157.off + 3, none⟩ = some (.bool ((rd_T53 l0 0).f3)) ∧ w'.cell? (ad166.add ((x3_2).toNat * 2)) = some (.int .i64 ((rd_T105 ((rd_T53 l0 0).f1) x3_2).f0)) ∧ w'.cell? ⟨(ad166.add ((x3_2).toNat * 2)).block, (ad166.add ((x3_2).toNat * 2)).off + 1, none⟩ = some (.int .i64 ((rd_T105 ((rd_T53 l0 0).f1) x3_2).f1))) (ds := []) spec_l19Piece.d0 (by kernel_rfl) rfl rfl ⟨(bc_ HB.out hw165_0 :), (bc_ HB.out hw165_1 :), (bc_ HB.out hw165_2 :), (bc_ HB.out hw165_3 :), (bc_ HB.out hw166_0 :), (bc_ HB.out hw166_1 :), (bc_ HB.out hw168_0 :), (bc_ HB.out hw168_1 :), (bc_ HB.out hw168_2 :), (bc_ HB.out hw168_3 :), (bc_ HB.out hw169_0 :), (bc_ HB.out hw169_1 :), (bc_ HB.out hw171_0 :), (bc_ HB.out hw171_1 :), (bc_ HB.out hw171_2 :), (bc_ HB.out hw171_3 :), (bc_ HB.out hw172_0 :), (bc_ HB.out hw172_1 :), (bc_ HB.out hw173_0 :), (bc_ HB.out hw173_1 :), (bc_ HB.out hw173_2 :), (bc_ HB.out hw173_3 :), (bc_ HB.out hw174_0 :), (bc_ HB.out hw174_1 :)⟩ (fun hHeld => ?_); refine with_tabW spec_l19Piece.tab6 spec_l19Piece.bits6 (fun HT_ HW_ => ?_)
         generalize wr.drew = w25 at HB HR165_1 HR168_1 HR171_1 HR173_1 hx165_0 hx165_1 hx165_2 hx165_3 hx166_0 hx166_1 hx168_0 hx168_1 hx168_2 hx168_3 hx169_0 hx169_1 hx171_0 hx171_1 hx171_2 hx171_3 hx172_0 hx172_1 hx173_0 hx173_1 hx173_2 hx173_3 hx174_0 hx174_1 hHeld ⊢
         refine p1_ HT_.out 0 45 spec_l19Piece.d1 ?_
         refine p1_ HT_.out 1 46 spec_l19Piece.d2 ?_
         refine p1_ HT_.out 2 47 spec_l19Piece.d3 ?_
         refine p1_ HT_.out 4 49 spec_l19Piece.d4 ?_
         refine take_ (i := 3) (N := some 48) (v := ?_) (a' := ?_) spec_l19Piece.d5 rfl rfl (take_ofW HT_.out HW_.out (by kernel_rfl)) (fun _ _ _ h => h) (Or.inl ⟨by rfl, ?_⟩) hHeld ?_ ?_
         rotate_left
         · rintro w' ⟨s0, s1, s2, s3, s4, s5, s6, s7, s8, s9, s10, s11, s12, s13, s14, s15, s16, s17, s18, s19, s20, s21, s22, s23⟩
           go_simp
           with_reducible rfl
         rotate_left
         · simp only [Act.put, sA, sB, sC, i64_w, i32_w]
           rfl
         refine p1_ HT_.out 5 50 spec_l19Piece.d6 ?_
         refine p1_ HT_.out 6 51 spec_l19Piece.d7 ?_
         refine take_ (i := 7) (N := some 52) (v := ?_) (a' := ?_) spec_l19Piece.d8 rfl rfl (take_ofW HT_.out HW_.out (by kernel_rfl)) (fun _ _ _ h => h) (Or.inl ⟨by rfl, ?_⟩) hHeld ?_ ?_
         rotate_left
         · rintro w' ⟨s0, s1, s2, s3, s4, s5, s6, s7, s8, s9, s10, s11, s12, s13, s14, s15, s16, s17, s18, s19, s20, s21, s22, s23⟩
           go_simp
           with_reducible rfl
         rotate_left
         · simp only [Act.put, sA, sB, sC, i64_w, i32_w]
           rfl
         refine one_ (i := 8) (N := some 53) spec_l19Piece.d9 rfl rfl (one_of HT_.out (by kernel_rfl)) (by decide) (fun K hK => ?_)
         refine goes_ Try.func60 (by kernel_rfl) rfl #[.int .i64 ((rd_T105 ((rd_T53 l0 0).f1) x3_2).f0), .int .i64 0, .int .i64 5] (by rfl) rfl rfl (by (try simp only [List.map_toArray, List.map_cons, List.map_nil]); first | done | rfl | (simp only [List.length_drop, List.length_take]; rfl)) ?_
         with_reducible refine (spec_l00In.calls ((rd_T105 ((rd_T53 l0 0).f1) x3_2).f0) 0 5 true _ A13.out).mono ?_
         rintro e w' ⟨rfl, ⟨nd, rfl⟩⟩
         refine ⟨_, rfl, ?_⟩
         refine hK.out _ _ ⟨(bc_ HB.out hw165_0 :), (bc_ HB.out hw165_1 :), (bc_ HB.out hw165_2 :), (bc_ HB.out hw165_3 :), (bc_ HB.out hw166_0 :), (bc_ HB.out hw166_1 :), (bc_ HB.out hw168_0 :), (bc_ HB.out hw168_1 :), (bc_ HB.out hw168_2 :), (bc_ HB.out hw168_3 :), (bc_ HB.out hw169_0 :), (bc_ HB.out hw169_1 :), (bc_ HB.out hw171_0 :), (bc_ HB.out hw171_1 :), (bc_ HB.out hw171_2 :), (bc_ HB.out hw171_3 :), (bc_ HB.out hw172_0 :), (bc_ HB.out hw172_1 :), (bc_ HB.out hw173_0 :), (bc_ HB.out hw173_1 :), (bc_ HB.out hw173_2 :), (bc_ HB.out hw173_3 :), (bc_ HB.out hw174_0 :), (bc_ HB.out hw174_1 :)⟩ (fun hHeld => ?_)
         clear hK K
         refine norm_ (a' := ?_) ?_ ?_
         rotate_left
         · show Act.put _ (some 53) _ = _
           simp only [Act.put, sA, sB, sC, i64_w, i32_w]
           rfl
         refine p1_ HT_.out 9 54 spec_l19Piece.d10 ?_
         refine p1_ HT_.out 10 55 spec_l19Piece.d11 ?_
         refine p1_ HT_.out 11 56 spec_l19Piece.d12 ?_
         refine p1_ HT_.out 12 57 spec_l19Piece.d13 ?_
         refine p1_ HT_.out 13 58 spec_l19Piece.d14 ?_
         refine p1_ HT_.out 15 60 spec_l19Piece.d15 ?_
         refine take_ (i := 14) (N := some 59) (v := ?_) (a' := ?_) spec_l19Piece.d16 rfl rfl (take_ofW HT_.out HW_.out (by kernel_rfl)) (fun _ _ _ h => h) (Or.inl ⟨by rfl, ?_⟩) hHeld ?_ ?_
         rotate_left
         · rintro w' ⟨s0, s1, s2, s3, s4, s5, s6, s7, s8, s9, s10, s11, s12, s13, s14, s15, s16, s17, s18, s19, s20, s21, s22, s23⟩
           go_simp
           with_reducible rfl
         rotate_left
         · simp only [Act.put, sA, sB, sC, i64_w, i32_w]
           rfl
         refine p1_ HT_.out 16 61 spec_l19Piece.d17 ?_
         refine p1_ HT_.out 17 62 spec_l19Piece.d18 ?_
         refine take_ (i := 18) (N := some 63) (v := ?_) (a' := ?_) spec_l19Piece.d19 rfl rfl (take_ofW HT_.out HW_.out (by kernel_rfl)) (fun _ _ _ h => h) (Or.inl ⟨by rfl, ?_⟩) hHeld ?_ ?_
         rotate_left
         · rintro w' ⟨s0, s1, s2, s3, s4, s5, s6, s7, s8, s9, s10, s11, s12, s13, s14, s15, s16, s17, s18, s19, s20, s21, s22, s23⟩
           go_simp
           with_reducible rfl
         rotate_left
         · simp only [Act.put, sA, sB, sC, i64_w, i32_w]
           rfl
         refine one_ (i := 19) (N := some 64) spec_l19Piece.d20 rfl rfl (one_of HT_.out (by kernel_rfl)) (by decide) (fun K hK => ?_)
         refine goes_ Try.func60 (by kernel_rfl) rfl #[.int .i64 ((rd_T105 ((rd_T53 l0 0).f1) x3_2).f1), .int .i64 0, .int .i64 5] (by rfl) rfl rfl (by (try simp only [List.map_toArray, List.map_cons, List.map_nil]); first | done | rfl | (simp only [List.length_drop, List.length_take]; rfl)) ?_
         with_reducible refine (spec_l00In.calls ((rd_T105 ((rd_T53 l0 0).f1) x3_2).f1) 0 5 true _ A15.out).mono ?_
         rintro e w' ⟨rfl, ⟨nd, rfl⟩⟩
         refine ⟨_, rfl, ?_⟩
         refine hK.out _ _ ⟨(bc_ HB.out hw165_0 :), (bc_ HB.out hw165_1 :), (bc_ HB.out hw165_2 :), (bc_ HB.out hw165_3 :), (bc_ HB.out hw166_0 :), (bc_ HB.out hw166_1 :), (bc_ HB.out hw168_0 :), (bc_ HB.out hw168_1 :), (bc_ HB.out hw168_2 :), (bc_ HB.out hw168_3 :), (bc_ HB.out hw169_0 :), (bc_ HB.out hw169_1 :), (bc_ HB.out hw171_0 :), (bc_ HB.out hw171_1 :), (bc_ HB.out hw171_2 :), (bc_ HB.out hw171_3 :), (bc_ HB.out hw172_0 :), (bc_ HB.out hw172_1 :), (bc_ HB.out hw173_0 :), (bc_ HB.out hw173_1 :), (bc_ HB.out hw173_2 :), (bc_ HB.out hw173_3 :), (bc_ HB.out hw174_0 :), (bc_ HB.out hw174_1 :)⟩ (fun hHeld => ?_)
         clear hK K
         refine norm_ (a' := ?_) ?_ ?_
         rotate_left
         · show Act.put _ (some 64) _ = _
           simp only [Act.put, sA, sB, sC, i64_w, i32_w]
           rfl
         refine p1_ HT_.out 20 65 spec_l19Piece.d21 ?_
         refine p1_ HT_.out 21 66 spec_l19Piece.d22 ?_
         refine p1_ HT_.out 22 67 spec_l19Piece.d23 ?_
         refine p1_ HT_.out 23 68 spec_l19Piece.d24 ?_
         refine p1_ HT_.out 24 69 spec_l19Piece.d25 ?_
         refine p1_ HT_.out 25 70 spec_l19Piece.d26 ?_
         refine p1_ HT_.out 26 71 spec_l19Piece.d27 ?_
         refine p1_ HT_.out 27 72 spec_l19Piece.d28 ?_
         refine p1_ HT_.out 28 73 spec_l19Piece.d29 ?_
         refine p1_ HT_.out 30 75 spec_l19Piece.d30 ?_
         refine p1_ HT_.out 31 76 spec_l19Piece.d31 ?_
         refine p1_ HT_.out 34 79 spec_l19Piece.d32 ?_
         refine p1_ HT_.out 35 80 spec_l19Piece.d33 ?_
         refine p1_ HT_.out 36 81 spec_l19Piece.d34 ?_
         refine p1_ HT_.out 38 83 spec_l19Piece.d35 ?_
         refine take_ (i := 29) (N := some 74) (v := ?_) (a' := ?_) spec_l19Piece.d36 rfl rfl (take_ofW HT_.out HW_.out (by kernel_rfl)) (fun _ _ _ h => h) (Or.inl ⟨by rfl, ?_⟩) hHeld ?_ ?_
         rotate_left
         · rintro w' ⟨s0, s1, s2, s3, s4, s5, s6, s7, s8, s9, s10, s11, s12, s13, s14, s15, s16, s17, s18, s19, s20, s21, s22, s23⟩
           go_simp
           with_reducible rfl
         rotate_left
         · simp only [Act.put, sA, sB, sC, i64_w, i32_w]
           rfl
         refine p1_ HT_.out 32 77 spec_l19Piece.d37 ?_
         refine take_ (i := 33) (N := some 78) (v := ?_) (a' := ?_) spec_l19Piece.d38 rfl rfl (take_ofW HT_.out HW_.out (by kernel_rfl)) (fun _ _ _ h => h) (Or.inl ⟨by rfl, ?_⟩) hHeld ?_ ?_
         rotate_left
         · rintro w' ⟨s0, s1, s2, s3, s4, s5, s6, s7, s8, s9, s10, s11, s12, s13, s14, s15, s16, s17, s18, s19, s20, s21, s22, s23⟩
           go_simp
           with_reducible rfl
         rotate_left
         · simp only [Act.put, sA, sB, sC, i64_w, i32_w]
           rfl
         refine take_ (i := 37) (N := some 82) (v := ?_) (a' := ?_) spec_l19Piece.d39 rfl rfl (take_ofW HT_.out HW_.out (by kernel_rfl)) (fun _ _ _ h => h) (Or.inl ⟨by rfl, ?_⟩) hHeld ?_ ?_
         rotate_left
         · rintro w' ⟨s0, s1, s2, s3, s4, s5, s6, s7, s8, s9, s10, s11, s12, s13, s14, s15, s16, s17, s18, s19, s20, s21, s22, s23⟩
           go_simp
           with_reducible rfl
         rotate_left
         · simp only [Act.put, sA, sB, sC, i64_w, i32_w]
           rfl
         refine p1_ HT_.out 39 84 spec_l19Piece.d40 ?_
         refine take_ (i := 40) (N := some 85) (v := ?_) (a' := ?_) spec_l19Piece.d41 rfl rfl (take_ofW HT_.out HW_.out (by kernel_rfl)) (fun _ _ _ h => h) (Or.inl ⟨by rfl, ?_⟩) hHeld ?_ ?_
         rotate_left
         · rintro w' ⟨s0, s1, s2, s3, s4, s5, s6, s7, s8, s9, s10, s11, s12, s13, s14, s15, s16, s17, s18, s19, s20, s21, s22, s23⟩
           go_simp
           with_reducible rfl
         rotate_left
         · simp only [Act.put, sA, sB, sC, i64_w, i32_w]
           rfl
         refine one_ (i := 41) (N := some 86) spec_l19Piece.d42 rfl rfl (one_of HT_.out (by kernel_rfl)) (by decide) (fun K hK => ?_)
         refine goes_ Try.func92 (by kernel_rfl) rfl #[.agg #[.int .i64 ((rd_T105 ((rd_T53 l0 0).f1) (ji18)).f0), .int .i64 ((rd_T105 ((rd_T53 l0 0).f1) (ji18)).f1)], .agg #[.int .i64 ((rd_T105 ((rd_T53 l0 0).f1) x3_2).f0), .int .i64 ((rd_T105 ((rd_T53 l0 0).f1) x3_2).f1)]] (by rfl) rfl rfl (by (try simp only [List.map_toArray, List.map_cons, List.map_nil]); first | done | (simp only [hji18]; rfl) | rfl | (simp only [List.length_drop, List.length_take]; rfl)) ?_
         with_reducible refine (spec_l19Before.calls ((rd_T105 ((rd_T53 l0 0).f1) (ji18)).f0) ((rd_T105 ((rd_T53 l0 0).f1) (ji18)).f1) ((rd_T105 ((rd_T53 l0 0).f1) x3_2).f0) ((rd_T105 ((rd_T53 l0 0).f1) x3_2).f1) false _ A21.out).mono ?_
         rintro e w26 ⟨rfl, hb⟩
         refine ⟨_, rfl, ?_⟩
         have n0_ := mkA (below_step (bs0_ HB.out) hb)
         clear HB
         have HB := n0_
         clear n0_
         (try clear hb)
         (try clear hb2)
         (try clear hk)
         (try clear hi)
         refine hK.out _ _ ⟨(bc_ HB.out hw165_0 :), (bc_ HB.out hw165_1 :), (bc_ HB.out hw165_2 :), (bc_ HB.out hw165_3 :), (bc_ HB.out hw166_0 :), (bc_ HB.out hw166_1 :), (bc_ HB.out hw168_0 :), (bc_ HB.out hw168_1 :), (bc_ HB.out hw168_2 :), (bc_ HB.out hw168_3 :), (bc_ HB.out hw169_0 :), (bc_ HB.out hw169_1 :), (bc_ HB.out hw171_0 :), (bc_ HB.out hw171_1 :), (bc_ HB.out hw171_2 :), (bc_ HB.out hw171_3 :), (bc_ HB.out hw172_0 :), (bc_ HB.out hw172_1 :), (bc_ HB.out hw173_0 :), (bc_ HB.out hw173_1 :), (bc_ HB.out hw173_2 :), (bc_ HB.out hw173_3 :), (bc_ HB.out hw174_0 :), (bc_ HB.out hw174_1 :)⟩ (fun hHeld => ?_)
         clear hK K
         refine norm_ (a' := ?_) ?_ ?_
         rotate_left
         · show Act.put _ (some 86) _ = _
           simp only [Act.put, sA, sB, sC, i64_w, i32_w]
           rfl
         refine p1_ HT_.out 42 87 spec_l19Piece.d43 ?_
         refine p1_ HT_.out 43 88 spec_l19Piece.d44 ?_
         refine p1_ HT_.out 44 89 spec_l19Piece.d45 ?_
         refine done_ (done_of HT_.out (by kernel_rfl)) ?_
         try go_wp2
         go_ret
         exact ⟨by first | rfl | (simp [errW_none, errW_some] <;> rfl) | (simp only [← hji18]; first | rfl | (simp [errW_none, errW_some] <;> rfl)) | (simp [*, errW_none, errW_some] <;> rfl), by repeat (first | (with_reducible first | exact HB.out | apply below_alloc | apply pw_below_drewN | apply below_drew1) | exact HB.out)⟩
       subst c22
       have H1 : (spec_l19Piece.l0 k2 (wrap64 (x3_2 + 1)) l0) = some r := by rw [if_pos rfl] at H; exact H
       clear H
       have H := H1
       clear H1
       have H' := mkA H
       clear H
       have p157 : 0 ≤ (0 : Int) := (by omega)
       have q157 : 0 < (l0.length : Int) := dt_
       obtain ⟨ad157, A157_1, c157_1, e157, hx157_0, hx157_1, hx157_2, hx157_3, hl157_1, hi157_1⟩ := at0_T53 HR0.out q157
       cases e157
       have qi157 : (0 < l0.length) = True := eq_true (by omega)
       replace hx157_0 := bc_ HB.out hx157_0
       replace hx157_1 := bc_ HB.out hx157_1
       replace hx157_2 := bc_ HB.out hx157_2
       replace hx157_3 := bc_ HB.out hx157_3
       have HR157_1 := mkA hi157_1
       have HC157_1 := mkA hl157_1
       clear hi157_1 hl157_1
       replace p157 := eq_true p157
       replace q157 := eq_true q157
       try go_wp2
       have n0_ := mkA (below_drew1 HB.out)
       clear HB
       have HB := n0_
       clear n0_
       have p165 : 0 ≤ (0 : Int) := (by omega)
       have q165 : 0 < (l0.length : Int) := dt_
       obtain ⟨ad165, A165_1, c165_1, e165, hx165_0, hx165_1, hx165_2, hx165_3, hl165_1, hi165_1⟩ := at0_T53 HR0.out q165
       have hw165_3 := hx165_3
       have hw165_2 := hx165_2
       have hw165_1 := hx165_1
       have hw165_0 := hx165_0
       obtain rfl : ad157 = ad165 := (by injection e165)
       have qi165 : (0 < l0.length) = True := eq_true (by omega)
       replace hx165_0 := bc_ HB.out hx165_0
       replace hx165_1 := bc_ HB.out hx165_1
       replace hx165_2 := bc_ HB.out hx165_2
       replace hx165_3 := bc_ HB.out hx165_3
       have HR165_1 := mkA hi165_1
       have HC165_1 := mkA hl165_1
       clear hi165_1 hl165_1
       replace p165 := eq_true p165
       replace q165 := eq_true q165
       have p166 : 0 ≤ (x3_2 : Int) := dt_
       have q166 : x3_2 < (((rd_T53 l0 0).f1).length : Int) := dt_
       obtain ⟨ad166, e166, hx166_0, hx166_1⟩ := at_T105 HR165_1.out x3_2 p166 q166
       have hw166_1 := hx166_1
       have hw166_0 := hx166_0
       cases e166
       replace hx166_0 := bc_ HB.out hx166_0
       replace hx166_1 := bc_ HB.out hx166_1
       replace p166 := eq_true p166
       replace q166 := eq_true q166
       have p168 : 0 ≤ (0 : Int) := (by omega)
       have q168 : 0 < (l0.length : Int) := dt_
       obtain ⟨ad168, A168_1, c168_1, e168, hx168_0, hx168_1, hx168_2, hx168_3, hl168_1, hi168_1⟩ := at0_T53 HR0.out q168
       have hw168_3 := hx168_3
       have hw168_2 := hx168_2
       have hw168_1 := hx168_1
       have hw168_0 := hx168_0
       obtain rfl : ad157 = ad168 := (by injection e168)
       have qi168 : (0 < l0.length) = True := eq_true (by omega)
       replace hx168_0 := bc_ HB.out hx168_0
       replace hx168_1 := bc_ HB.out hx168_1
       replace hx168_2 := bc_ HB.out hx168_2
       replace hx168_3 := bc_ HB.out hx168_3
       have HR168_1 := mkA hi168_1
       have HC168_1 := mkA hl168_1
       clear hi168_1 hl168_1
       replace p168 := eq_true p168
       replace q168 := eq_true q168
       have ea_ := Option.some.inj (hx165_1.symm.trans hx168_1)
       injection ea_ with ea_ en_ ec_
       subst ea_
       subst ec_
       clear en_
       have p169 : 0 ≤ (x3_2 : Int) := dt_
       have q169 : x3_2 < (((rd_T53 l0 0).f1).length : Int) := dt_
       obtain ⟨ad169, e169, hx169_0, hx169_1⟩ := at_T105 HR168_1.out x3_2 p169 q169
       have hw169_1 := hx169_1
       have hw169_0 := hx169_0
       obtain rfl : ad166 = ad169 := (by injection e169)
       replace hx169_0 := bc_ HB.out hx169_0
       replace hx169_1 := bc_ HB.out hx169_1
       replace p169 := eq_true p169
       replace q169 := eq_true q169
       have p171 : 0 ≤ (0 : Int) := (by omega)
       have q171 : 0 < (l0.length : Int) := dt_
       obtain ⟨ad171, A171_1, c171_1, e171, hx171_0, hx171_1, hx171_2, hx171_3, hl171_1, hi171_1⟩ := at0_T53 HR0.out q171
       have hw171_3 := hx171_3
       have hw171_2 := hx171_2
       have hw171_1 := hx171_1
       have hw171_0 := hx171_0
       obtain rfl : ad157 = ad171 := (by injection e171)
       have qi171 : (0 < l0.length) = True := eq_true (by omega)
       replace hx171_0 := bc_ HB.out hx171_0
       replace hx171_1 := bc_ HB.out hx171_1
       replace hx171_2 := bc_ HB.out hx171_2
       replace hx171_3 := bc_ HB.out hx171_3
       have HR171_1 := mkA hi171_1
       have HC171_1 := mkA hl171_1
       clear hi171_1 hl171_1
       replace p171 := eq_true p171
       replace q171 := eq_true q171
       have ea_ := Option.some.inj (hx165_1.symm.trans hx171_1)
       injection ea_ with ea_ en_ ec_
       subst ea_
       subst ec_
       clear en_
       have p172 : 0 ≤ ((ji18) : Int) := dt_
       have q172 : (ji18) < (((rd_T53 l0 0).f1).length : Int) := dt_
       obtain ⟨ad172, e172, hx172_0, hx172_1⟩ := at_T105 HR171_1.out (ji18) p172 q172
       have hw172_1 := hx172_1
       have hw172_0 := hx172_0
       obtain rfl : ad166 = ad172 := (by injection e172)
       replace hx172_0 := bc_ HB.out hx172_0
       replace hx172_1 := bc_ HB.out hx172_1
       replace p172 := eq_true p172
       replace q172 := eq_true q172
       have p173 : 0 ≤ (0 : Int) := (by omega)
       have q173 : 0 < (l0.length : Int) := dt_
       obtain ⟨ad173, A173_1, c173_1, e173, hx173_0, hx173_1, hx173_2, hx173_3, hl173_1, hi173_1⟩ := at0_T53 HR0.out q173
       have hw173_3 := hx173_3
       have hw173_2 := hx173_2
       have hw173_1 := hx173_1
       have hw173_0 := hx173_0
       obtain rfl : ad157 = ad173 := (by injection e173)
       have qi173 : (0 < l0.length) = True := eq_true (by omega)
       replace hx173_0 := bc_ HB.out hx173_0
       replace hx173_1 := bc_ HB.out hx173_1
       replace hx173_2 := bc_ HB.out hx173_2
       replace hx173_3 := bc_ HB.out hx173_3
       have HR173_1 := mkA hi173_1
       have HC173_1 := mkA hl173_1
       clear hi173_1 hl173_1
       replace p173 := eq_true p173
       replace q173 := eq_true q173
       have ea_ := Option.some.inj (hx165_1.symm.trans hx173_1)
       injection ea_ with ea_ en_ ec_
       subst ea_
       subst ec_
       clear en_
       have p174 : 0 ≤ (x3_2 : Int) := dt_
       have q174 : x3_2 < (((rd_T53 l0 0).f1).length : Int) := dt_
       obtain ⟨ad174, e174, hx174_0, hx174_1⟩ := at_T105 HR173_1.out x3_2 p174 q174
       have hw174_1 := hx174_1
       have hw174_0 := hx174_0
       obtain rfl : ad166 = ad174 := (by injection e174)
       replace hx174_0 := bc_ HB.out hx174_0
       replace hx174_1 := bc_ HB.out hx174_1
       replace p174 := eq_true p174
       replace q174 := eq_true q174
       refine start_ (n := 45) (S := fun w' => w'.cell? ad157 = some (.string ((rd_T53 l0 0).f0)) ∧ w'.cell? ⟨ad157.block, ad157.off + 1, none⟩ = some (.slice (some ad166) ((rd_T53 l0 0).f1).length c165_1) ∧ w'.cell? ⟨ad157.block, ad157.off + 2, none⟩ = some (.int .i64 ((rd_T53 l0 0).f2)) ∧ w'.cell? ⟨ad157.block, ad157.off + 3, none⟩ = some (.bool ((rd_T53 l0 0).f3)) ∧ w'.cell? (ad166.add ((x3_2).toNat * 2)) = some (.int .i64 ((rd_T105 ((rd_T53 l0 0).f1) x3_2).f0)) ∧ w'.cell? ⟨(ad166.add ((x3_2).toNat * 2)).block, (ad166.add ((x3_2).toNat * 2)).off + 1, none⟩ = some (.int .i64 ((rd_T105 ((rd_T53 l0 0).f1) x3_2).f1)) ∧ w'.cell? ad157 = some (.string ((rd_T53 l0 0).f0)) ∧ w'.cell? ⟨ad157.block, ad157.off + 1, none⟩ = some (.slice (some ad166) ((rd_T53 l0 0).f1).length c165_1) ∧ w'.cell? ⟨ad157.block, ad157.off + 2, none⟩ = some (.int .i64 ((rd_T53 l0 0).f2)) ∧ w'.cell? ⟨ad157.block, ad157.off + 3, none⟩ = some (.bool ((rd_T53 l0 0).f3)) ∧ w'.cell? (ad166.add ((x3_2).toNat * 2)) = some (.int .i64 ((rd_T105 ((rd_T53 l0 0).f1) x3_2).f0)) ∧ w'.cell? ⟨(ad166.add ((x3_2).toNat * 2)).block, (ad166.add ((x3_2).toNat * 2)).off + 1, none⟩ = some (.int .i64 ((rd_T105 ((rd_T53 l0 0).f1) x3_2).f1)) ∧ w'.cell? ad157 = some (.string ((rd_T53 l0 0).f0)) ∧ w'.cell? ⟨ad157.block, ad157.off + 1, none⟩ = some (.slice (some ad166) ((rd_T53 l0 0).f1).length c165_1) ∧ w'.cell? ⟨ad157.block, ad157.off + 2, none⟩ = some (.int .i64 ((rd_T53 l0 0).f2)) ∧ w'.cell? ⟨ad157.block, ad157.off + 3, none⟩ = some (.bool ((rd_T53 l0 0).f3)) ∧ w'.cell? (ad166.add (((ji18)).toNat * 2)) = some (.int .i64 ((rd_T105 ((rd_T53 l0 0).f1) (ji18)).f0)) ∧ w'.cell? ⟨(ad166.add (((ji18)).toNat * 2)).block, (ad166.add (((ji18)).toNat * 2)).off + 1, none⟩ = some (.int .i64 ((rd_T105 ((rd_T53 l0 0).f1) (ji18)).f1)) ∧ w'.cell? ad157 = some (.string ((rd_T53 l0 0).f0)) ∧ w'.cell? ⟨ad157.block, ad157.off + 1, none⟩ = some (.slice (some ad166) ((rd_T53 l0 0).f1).length c165_1) ∧ w'.cell? ⟨ad157.block, ad157.off + 2, none⟩ = some (.int .i64 ((rd_T53 l0 0).f2)) ∧ w'.cell? ⟨ad157.block, ad157.off + 3, none⟩ = some (.bool ((rd_T53 l0 0).f3)) ∧ w'.cell? (ad166.add ((x3_2).toNat * 2)) = some (.int .i64 ((rd_T105 ((rd_T53 l0 0).f1) x3_2).f0)) ∧ w'.cell? ⟨(ad166.add ((x3_2).toNat * 2)).block, (ad166.add ((x3_2).toNat * 2)).off + 1, none⟩ = some (.int .i64 ((rd_T105 ((rd_T53 l0 0).f1) x3_2).f1))) (ds := []) spec_l19Piece.d0 (by kernel_rfl) rfl rfl ⟨(bc_ HB.out hw165_0 :), (bc_ HB.out hw165_1 :), (bc_ HB.out hw165_2 :), (bc_ HB.out hw165_3 :), (bc_ HB.out hw166_0 :), (bc_ HB.out hw166_1 :), (bc_ HB.out hw168_0 :), (bc_ HB.out hw168_1 :), (bc_ HB.out hw168_2 :), (bc_ HB.out hw168_3 :), (bc_ HB.out hw169_0 :), (bc_ HB.out hw169_1 :), (bc_ HB.out hw171_0 :), (bc_ HB.out hw171_1 :), (bc_ HB.out hw171_2 :), (bc_ HB.out hw171_3 :), (bc_ HB.out hw172_0 :), (bc_ HB.out hw172_1 :), (bc_ HB.out hw173_0 :), (bc_ HB.out hw173_1 :), (bc_ HB.out hw173_2 :), (bc_ HB.out hw173_3 :), (bc_ HB.out hw174_0 :), (bc_ HB.out hw174_1 :)⟩ (fun hHeld => ?_); refine with_tabW spec_l19Piece.tab6 spec_l19Piece.bits6 (fun HT_ HW_ => ?_)
       generalize wr.drew = w23 at HB HR165_1 HR168_1 HR171_1 HR173_1 hx165_0 hx165_1 hx165_2 hx165_3 hx166_0 hx166_1 hx168_0 hx168_1 hx168_2 hx168_3 hx169_0 hx169_1 hx171_0 hx171_1 hx171_2 hx171_3 hx172_0 hx172_1 hx173_0 hx173_1 hx173_2 hx173_3 hx174_0 hx174_1 hHeld ⊢
       refine p1_ HT_.out 0 45 spec_l19Piece.d1 ?_
       refine p1_ HT_.out 1 46 spec_l19Piece.d2 ?_
       refine p1_ HT_.out 2 47 spec_l19Piece.d3 ?_
       refine p1_ HT_.out 4 49 spec_l19Piece.d4 ?_
       refine take_ (i := 3) (N := some 48) (v := ?_) (a' := ?_) spec_l19Piece.d5 rfl rfl (take_ofW HT_.out HW_.out (by kernel_rfl)) (fun _ _ _ h => h) (Or.inl ⟨by rfl, ?_⟩) hHeld ?_ ?_
       rotate_left
       · rintro w' ⟨s0, s1, s2, s3, s4, s5, s6, s7, s8, s9, s10, s11, s12, s13, s14, s15, s16, s17, s18, s19, s20, s21, s22, s23⟩
         go_simp
         with_reducible rfl
       rotate_left
       · simp only [Act.put, sA, sB, sC, i64_w, i32_w]
         rfl
       refine p1_ HT_.out 5 50 spec_l19Piece.d6 ?_
       refine p1_ HT_.out 6 51 spec_l19Piece.d7 ?_
       refine take_ (i := 7) (N := some 52) (v := ?_) (a' := ?_) spec_l19Piece.d8 rfl rfl (take_ofW HT_.out HW_.out (by kernel_rfl)) (fun _ _ _ h => h) (Or.inl ⟨by rfl, ?_⟩) hHeld ?_ ?_
       rotate_left
       · rintro w' ⟨s0, s1, s2, s3, s4, s5, s6, s7, s8, s9, s10, s11, s12, s13, s14, s15, s16, s17, s18, s19, s20, s21, s22, s23⟩
         go_simp
         with_reducible rfl
       rotate_left
       · simp only [Act.put, sA, sB, sC, i64_w, i32_w]
         rfl
       refine one_ (i := 8) (N := some 53) spec_l19Piece.d9 rfl rfl (one_of HT_.out (by kernel_rfl)) (by decide) (fun K hK => ?_)
       refine goes_ Try.func60 (by kernel_rfl) rfl #[.int .i64 ((rd_T105 ((rd_T53 l0 0).f1) x3_2).f0), .int .i64 0, .int .i64 5] (by rfl) rfl rfl (by (try simp only [List.map_toArray, List.map_cons, List.map_nil]); first | done | rfl | (simp only [List.length_drop, List.length_take]; rfl)) ?_
       with_reducible refine (spec_l00In.calls ((rd_T105 ((rd_T53 l0 0).f1) x3_2).f0) 0 5 true _ A13.out).mono ?_
       rintro e w' ⟨rfl, ⟨nd, rfl⟩⟩
       refine ⟨_, rfl, ?_⟩
       refine hK.out _ _ ⟨(bc_ HB.out hw165_0 :), (bc_ HB.out hw165_1 :), (bc_ HB.out hw165_2 :), (bc_ HB.out hw165_3 :), (bc_ HB.out hw166_0 :), (bc_ HB.out hw166_1 :), (bc_ HB.out hw168_0 :), (bc_ HB.out hw168_1 :), (bc_ HB.out hw168_2 :), (bc_ HB.out hw168_3 :), (bc_ HB.out hw169_0 :), (bc_ HB.out hw169_1 :), (bc_ HB.out hw171_0 :), (bc_ HB.out hw171_1 :), (bc_ HB.out hw171_2 :), (bc_ HB.out hw171_3 :), (bc_ HB.out hw172_0 :), (bc_ HB.out hw172_1 :), (bc_ HB.out hw173_0 :), (bc_ HB.out hw173_1 :), (bc_ HB.out hw173_2 :), (bc_ HB.out hw173_3 :), (bc_ HB.out hw174_0 :), (bc_ HB.out hw174_1 :)⟩ (fun hHeld => ?_)
       clear hK K
       refine norm_ (a' := ?_) ?_ ?_
       rotate_left
       · show Act.put _ (some 53) _ = _
         simp only [Act.put, sA, sB, sC, i64_w, i32_w]
         rfl
       refine p1_ HT_.out 9 54 spec_l19Piece.d10 ?_
       refine p1_ HT_.out 10 55 spec_l19Piece.d11 ?_
       refine p1_ HT_.out 11 56 spec_l19Piece.d12 ?_
       refine p1_ HT_.out 12 57 spec_l19Piece.d13 ?_
       refine p1_ HT_.out 13 58 spec_l19Piece.d14 ?_
       refine p1_ HT_.out 15 60 spec_l19Piece.d15 ?_
       refine take_ (i := 14) (N := some 59) (v := ?_) (a' := ?_) spec_l19Piece.d16 rfl rfl (take_ofW HT_.out HW_.out (by kernel_rfl)) (fun _ _ _ h => h) (Or.inl ⟨by rfl, ?_⟩) hHeld ?_ ?_
       rotate_left
       · rintro w' ⟨s0, s1, s2, s3, s4, s5, s6, s7, s8, s9, s10, s11, s12, s13, s14, s15, s16, s17, s18, s19, s20, s21, s22, s23⟩
         go_simp
         with_reducible rfl
       rotate_left
       · simp only [Act.put, sA, sB, sC, i64_w, i32_w]
         rfl
       refine p1_ HT_.out 16 61 spec_l19Piece.d17 ?_
       refine p1_ HT_.out 17 62 spec_l19Piece.d18 ?_
       refine take_ (i := 18) (N := some 63) (v := ?_) (a' := ?_) spec_l19Piece.d19 rfl rfl (take_ofW HT_.out HW_.out (by kernel_rfl)) (fun _ _ _ h => h) (Or.inl ⟨by rfl, ?_⟩) hHeld ?_ ?_
       rotate_left
       · rintro w' ⟨s0, s1, s2, s3, s4, s5, s6, s7, s8, s9, s10, s11, s12, s13, s14, s15, s16, s17, s18, s19, s20, s21, s22, s23⟩
         go_simp
         with_reducible rfl
       rotate_left
       · simp only [Act.put, sA, sB, sC, i64_w, i32_w]
         rfl
       refine one_ (i := 19) (N := some 64) spec_l19Piece.d20 rfl rfl (one_of HT_.out (by kernel_rfl)) (by decide) (fun K hK => ?_)
       refine goes_ Try.func60 (by kernel_rfl) rfl #[.int .i64 ((rd_T105 ((rd_T53 l0 0).f1) x3_2).f1), .int .i64 0, .int .i64 5] (by rfl) rfl rfl (by (try simp only [List.map_toArray, List.map_cons, List.map_nil]); first | done | rfl | (simp only [List.length_drop, List.length_take]; rfl)) ?_
       with_reducible refine (spec_l00In.calls ((rd_T105 ((rd_T53 l0 0).f1) x3_2).f1) 0 5 true _ A15.out).mono ?_
       rintro e w' ⟨rfl, ⟨nd, rfl⟩⟩
       refine ⟨_, rfl, ?_⟩
       refine hK.out _ _ ⟨(bc_ HB.out hw165_0 :), (bc_ HB.out hw165_1 :), (bc_ HB.out hw165_2 :), (bc_ HB.out hw165_3 :), (bc_ HB.out hw166_0 :), (bc_ HB.out hw166_1 :), (bc_ HB.out hw168_0 :), (bc_ HB.out hw168_1 :), (bc_ HB.out hw168_2 :), (bc_ HB.out hw168_3 :), (bc_ HB.out hw169_0 :), (bc_ HB.out hw169_1 :), (bc_ HB.out hw171_0 :), (bc_ HB.out hw171_1 :), (bc_ HB.out hw171_2 :), (bc_ HB.out hw171_3 :), (bc_ HB.out hw172_0 :), (bc_ HB.out hw172_1 :), (bc_ HB.out hw173_0 :), (bc_ HB.out hw173_1 :), (bc_ HB.out hw173_2 :), (bc_ HB.out hw173_3 :), (bc_ HB.out hw174_0 :), (bc_ HB.out hw174_1 :)⟩ (fun hHeld => ?_)
       clear hK K
       refine norm_ (a' := ?_) ?_ ?_
       rotate_left
       · show Act.put _ (some 64) _ = _
         simp only [Act.put, sA, sB, sC, i64_w, i32_w]
         rfl
       refine p1_ HT_.out 20 65 spec_l19Piece.d21 ?_
       refine p1_ HT_.out 21 66 spec_l19Piece.d22 ?_
       refine p1_ HT_.out 22 67 spec_l19Piece.d23 ?_
       refine p1_ HT_.out 23 68 spec_l19Piece.d24 ?_
       refine p1_ HT_.out 24 69 spec_l19Piece.d25 ?_
       refine p1_ HT_.out 25 70 spec_l19Piece.d26 ?_
       refine p1_ HT_.out 26 71 spec_l19Piece.d27 ?_
       refine p1_ HT_.out 27 72 spec_l19Piece.d28 ?_
       refine p1_ HT_.out 28 73 spec_l19Piece.d29 ?_
       refine p1_ HT_.out 30 75 spec_l19Piece.d30 ?_
       refine p1_ HT_.out 31 76 spec_l19Piece.d31 ?_
       refine p1_ HT_.out 34 79 spec_l19Piece.d32 ?_
       refine p1_ HT_.out 35 80 spec_l19Piece.d33 ?_
       refine p1_ HT_.out 36 81 spec_l19Piece.d34 ?_
       refine p1_ HT_.out 38 83 spec_l19Piece.d35 ?_
       refine take_ (i := 29) (N := some 74) (v := ?_) (a' := ?_) spec_l19Piece.d36 rfl rfl (take_ofW HT_.out HW_.out (by kernel_rfl)) (fun _ _ _ h => h) (Or.inl ⟨by rfl, ?_⟩) hHeld ?_ ?_
       rotate_left
       · rintro w' ⟨s0, s1, s2, s3, s4, s5, s6, s7, s8, s9, s10, s11, s12, s13, s14, s15, s16, s17, s18, s19, s20, s21, s22, s23⟩
         go_simp
         with_reducible rfl
       rotate_left
       · simp only [Act.put, sA, sB, sC, i64_w, i32_w]
         rfl
       refine p1_ HT_.out 32 77 spec_l19Piece.d37 ?_
       refine take_ (i := 33) (N := some 78) (v := ?_) (a' := ?_) spec_l19Piece.d38 rfl rfl (take_ofW HT_.out HW_.out (by kernel_rfl)) (fun _ _ _ h => h) (Or.inl ⟨by rfl, ?_⟩) hHeld ?_ ?_
       rotate_left
       · rintro w' ⟨s0, s1, s2, s3, s4, s5, s6, s7, s8, s9, s10, s11, s12, s13, s14, s15, s16, s17, s18, s19, s20, s21, s22, s23⟩
         go_simp
         with_reducible rfl
       rotate_left
       · simp only [Act.put, sA, sB, sC, i64_w, i32_w]
         rfl
       refine take_ (i := 37) (N := some 82) (v := ?_) (a' := ?_) spec_l19Piece.d39 rfl rfl (take_ofW HT_.out HW_.out (by kernel_rfl)) (fun _ _ _ h => h) (Or.inl ⟨by rfl, ?_⟩) hHeld ?_ ?_
       rotate_left
       · rintro w' ⟨s0, s1, s2, s3, s4, s5, s6, s7, s8, s9, s10, s11, s12, s13, s14, s15, s16, s17, s18, s19, s20, s21, s22, s23⟩
         go_simp
         with_reducible rfl
       rotate_left
       · simp only [Act.put, sA, sB, sC, i64_w, i32_w]
         rfl
       refine p1_ HT_.out 39 84 spec_l19Piece.d40 ?_
       refine take_ (i := 40) (N := some 85) (v := ?_) (a' := ?_) spec_l19Piece.d41 rfl rfl (take_ofW HT_.out HW_.out (by kernel_rfl)) (fun _ _ _ h => h) (Or.inl ⟨by rfl, ?_⟩) hHeld ?_ ?_
       rotate_left
       · rintro w' ⟨s0, s1, s2, s3, s4, s5, s6, s7, s8, s9, s10, s11, s12, s13, s14, s15, s16, s17, s18, s19, s20, s21, s22, s23⟩
         go_simp
         with_reducible rfl
       rotate_left
       · simp only [Act.put, sA, sB, sC, i64_w, i32_w]
         rfl
       refine one_ (i := 41) (N := some 86) spec_l19Piece.d42 rfl rfl (one_of HT_.out (by kernel_rfl)) (by decide) (fun K hK => ?_)
       refine goes_ Try.func92 (by kernel_rfl) rfl #[.agg #[.int .i64 ((rd_T105 ((rd_T53 l0 0).f1) (ji18)).f0), .int .i64 ((rd_T105 ((rd_T53 l0 0).f1) (ji18)).f1)], .agg #[.int .i64 ((rd_T105 ((rd_T53 l0 0).f1) x3_2).f0), .int .i64 ((rd_T105 ((rd_T53 l0 0).f1) x3_2).f1)]] (by rfl) rfl rfl (by (try simp only [List.map_toArray, List.map_cons, List.map_nil]); first | done | (simp only [hji18]; rfl) | rfl | (simp only [List.length_drop, List.length_take]; rfl)) ?_
       with_reducible refine (spec_l19Before.calls ((rd_T105 ((rd_T53 l0 0).f1) (ji18)).f0) ((rd_T105 ((rd_T53 l0 0).f1) (ji18)).f1) ((rd_T105 ((rd_T53 l0 0).f1) x3_2).f0) ((rd_T105 ((rd_T53 l0 0).f1) x3_2).f1) true _ A21.out).mono ?_
       rintro e w24 ⟨rfl, hb⟩
       refine ⟨_, rfl, ?_⟩
       have n0_ := mkA (below_step (bs0_ HB.out) hb)
       clear HB
       have HB := n0_
       clear n0_
       (try clear hb)
       (try clear hb2)
       (try clear hk)
       (try clear hi)
       refine hK.out _ _ ⟨(bc_ HB.out hw165_0 :), (bc_ HB.out hw165_1 :), (bc_ HB.out hw165_2 :), (bc_ HB.out hw165_3 :), (bc_ HB.out hw166_0 :), (bc_ HB.out hw166_1 :), (bc_ HB.out hw168_0 :), (bc_ HB.out hw168_1 :), (bc_ HB.out hw168_2 :), (bc_ HB.out hw168_3 :), (bc_ HB.out hw169_0 :), (bc_ HB.out hw169_1 :), (bc_ HB.out hw171_0 :), (bc_ HB.out hw171_1 :), (bc_ HB.out hw171_2 :), (bc_ HB.out hw171_3 :), (bc_ HB.out hw172_0 :), (bc_ HB.out hw172_1 :), (bc_ HB.out hw173_0 :), (bc_ HB.out hw173_1 :), (bc_ HB.out hw173_2 :), (bc_ HB.out hw173_3 :), (bc_ HB.out hw174_0 :), (bc_ HB.out hw174_1 :)⟩ (fun hHeld => ?_)
       clear hK K
       refine norm_ (a' := ?_) ?_ ?_
       rotate_left
       · show Act.put _ (some 86) _ = _
         simp only [Act.put, sA, sB, sC, i64_w, i32_w]
         rfl
       refine p1_ HT_.out 42 87 spec_l19Piece.d43 ?_
       refine p1_ HT_.out 43 88 spec_l19Piece.d44 ?_
       refine p1_ HT_.out 44 89 spec_l19Piece.d45 ?_
       refine done_ (done_of HT_.out (by kernel_rfl)) ?_
       try go_wp2
       go_roundg k2
       case measure => have := HJ1.out; have := HK2.out; omega
       case rel => exact ⟨(wrap64 (x3_2 + 1)), (by first | rfl | (simp; done) | (simp [*]; done) | (simp [i64_w, i32_w]; done)), H', ⟨by have := HJ1.out; have := HK2.out; omega⟩, ⟨by repeat (first | (with_reducible first | exact HB.out | apply below_alloc | apply pw_below_drewN | apply below_drew1) | exact HB.out)⟩⟩
end Go.Proofs.Ytakagkflgkoiiaa.GFnExactLaidCells
