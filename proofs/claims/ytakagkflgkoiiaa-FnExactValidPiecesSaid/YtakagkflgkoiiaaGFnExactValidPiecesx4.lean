-- Written by the session's own program (gen.py) out of the translation's print. Lean checks it.
import Derived.Test.YtakagkflgkoiiaaGFnExactValidPiecesx0
import Derived.Test.YtakagkflgkoiiaaGFnExactValidPiecesx2
import Derived.Test.YtakagkflgkoiiaaGFnExactValidPiecesx3
namespace Go.Proofs.Ytakagkflgkoiiaa.GFnExactValidPieces
open Go.RowKit Go.Proofs.YtakagkflgkoiiaaW.PrintWords Go.Proofs.YtakagkflgkoiiaaW.PrintLast Go.Proofs.YtakagkflgkoiiaaW.PrintMore
attribute [local go_sem] max2_int min2_int max_two min_two max_three min_three max_four min_four   -- for this text's walks alone
set_option linter.unusedVariables false
set_option linter.unusedSimpArgs false

/-! ### spec_l19Piece: function 72 -/
mutual
def spec_l19Piece.j0 : Nat → Bool → List (S53) → Option (Bool)
  | 0, _, _ => none
  | k + 1, x35, x960 => if x35 = true then (some false) else (spec_l19Piece.l0 k 0 x960)
def spec_l19Piece.l0 : Nat → Int → List (S53) → Option (Bool)
  | 0, _, _ => none
  | k + 1, x3, x960 => if 0 < (x960.length : Int) then (if x3 < (((rd_T53 x960 0).f1).length : Int) then (if 0 ≤ x3 then ((spec_l00In.f ((rd_T105 ((rd_T53 x960 0).f1) x3).f0) 0 5).bind fun t140 => (if t140 = true then ((spec_l00In.f ((rd_T105 ((rd_T53 x960 0).f1) x3).f1) 0 5).bind fun t143 => (if t143 = true then (if x3 > 0 then (if 0 ≤ (wrap64 (x3 - 1)) then (if (wrap64 (x3 - 1)) < (((rd_T53 x960 0).f1).length : Int) then ((spec_l19Before.f ((rd_T105 ((rd_T53 x960 0).f1) (wrap64 (x3 - 1))).f0) ((rd_T105 ((rd_T53 x960 0).f1) (wrap64 (x3 - 1))).f1) ((rd_T105 ((rd_T53 x960 0).f1) x3).f0) ((rd_T105 ((rd_T53 x960 0).f1) x3).f1)).bind fun t148 => (if t148 = true then (spec_l19Piece.l0 k (wrap64 (x3 + 1)) x960) else (some false))) else (none)) else (none)) else (spec_l19Piece.l0 k (wrap64 (x3 + 1)) x960)) else (some false))) else (some false))) else (none)) else ((spec_l03Bounds.f k ((rd_T53 x960 0).f1)).bind fun bt132 => (if bt132.1 = 0 then (some (bt132.2.1 == 0)) else (some false)))) else (none)
end
def spec_l19Piece.f (k : Nat) (l0 : List (S53)) : Option (Bool) := if 0 < (l0.length : Int) then ((spec_l01Name.f k ((rd_T53 l0 0).f0)).bind fun t125 => (if t125 = true then (if (((rd_T53 l0 0).f1).length : Int) < 1 then (spec_l19Piece.j0 k true l0) else (if (((rd_T53 l0 0).f1).length : Int) > 6 then (spec_l19Piece.j0 k true l0) else ((spec_l00In.f ((rd_T53 l0 0).f2) 0 24).bind fun t129 => (spec_l19Piece.j0 k (!t129) l0)))) else (spec_l19Piece.j0 k true l0))) else (none)
theorem spec_l19Piece.mono_l : ∀ k, (∀ y0 y1, LeO (spec_l19Piece.j0 k y0 y1) (spec_l19Piece.j0 (k + 1) y0 y1)) ∧ (∀ y0 y1, LeO (spec_l19Piece.l0 k y0 y1) (spec_l19Piece.l0 (k + 1) y0 y1))
  | 0 => ⟨fun _ _ r h => by simp [spec_l19Piece.j0] at h, fun _ _ r h => by simp [spec_l19Piece.l0] at h⟩
  | k + 1 => by
    obtain ⟨ih0, ih1⟩ := spec_l19Piece.mono_l k
    refine ⟨?_, ?_⟩
    · intro y0 y1
      unfold spec_l19Piece.j0
      repeat' first
      | (with_reducible exact ih0 _ _)
      | (with_reducible exact ih1 _ _)
      | (with_reducible exact spec_l01Name.mono _ _)
      | (with_reducible exact spec_l03Bounds.mono _ _)
      | (with_reducible exact LeO.refl _)
      | (with_reducible exact LeO.none _)
      | (with_reducible refine LeO.ite ?_ ?_)
      | (with_reducible refine LeO.bind ?_ (fun _ => ?_))
      | exact ih0 _ _
      | exact ih1 _ _
      | exact spec_l01Name.mono _ _
      | exact spec_l03Bounds.mono _ _
      | exact LeO.none _
      | refine LeO.ite ?_ ?_
      | refine LeO.bind ?_ (fun _ => ?_)
    · intro y0 y1
      unfold spec_l19Piece.l0
      repeat' first
      | (with_reducible exact ih0 _ _)
      | (with_reducible exact ih1 _ _)
      | (with_reducible exact spec_l01Name.mono _ _)
      | (with_reducible exact spec_l03Bounds.mono _ _)
      | (with_reducible exact LeO.refl _)
      | (with_reducible exact LeO.none _)
      | (with_reducible refine LeO.ite ?_ ?_)
      | (with_reducible refine LeO.bind ?_ (fun _ => ?_))
      | exact ih0 _ _
      | exact ih1 _ _
      | exact spec_l01Name.mono _ _
      | exact spec_l03Bounds.mono _ _
      | exact LeO.none _
      | refine LeO.ite ?_ ?_
      | refine LeO.bind ?_ (fun _ => ?_)
theorem spec_l19Piece.mono : ∀ a0 k, LeO (spec_l19Piece.f k a0) (spec_l19Piece.f (k + 1) a0) := by
  intro a0 k
  obtain ⟨ih0, ih1⟩ := spec_l19Piece.mono_l k
  unfold spec_l19Piece.f
  repeat' first
      | (with_reducible exact ih0 _ _)
      | (with_reducible exact ih1 _ _)
      | (with_reducible exact spec_l01Name.mono _ _)
      | (with_reducible exact spec_l03Bounds.mono _ _)
      | (with_reducible exact LeO.refl _)
      | (with_reducible exact LeO.none _)
      | (with_reducible refine LeO.ite ?_ ?_)
      | (with_reducible refine LeO.bind ?_ (fun _ => ?_))
      | exact ih0 _ _
      | exact ih1 _ _
      | exact spec_l01Name.mono _ _
      | exact spec_l03Bounds.mono _ _
      | exact LeO.none _
      | refine LeO.ite ?_ ?_
      | refine LeO.bind ?_ (fun _ => ?_)
def spec_l19Piece.T6 : Bool × List (List Nat × List Nat) := (true, [([], []), ([0], [0]), ([1], [1]), ([2], [2]), ([], []), ([3, 4], [3, 4]), ([5], [5]), ([6], [6]), ([7], [7]), ([8], [8]), ([9, 8], [9]), ([10], [10]), ([11, 10], [10, 11]), ([12, 10], [10, 12]), ([13, 10], [10, 13]), ([10], [10]), ([14, 15, 10], [10, 14, 15]), ([16, 10], [10, 16]), ([17, 10], [10, 17]), ([18, 10, 10], [10, 18]), ([19, 10], [10, 19]), ([10, 20], [10, 20]), ([21, 19], [21]), ([22], [22]), ([23, 22], [22, 23]), ([24, 22, 22], [22, 24]), ([25], [25]), ([26, 25], [25, 26]), ([27, 25], [25, 27]), ([28, 25], [25, 28]), ([25], [25]), ([30, 25], [25, 30]), ([29, 31, 25], [25, 29, 31]), ([32, 25], [25, 32]), ([25], [25]), ([34, 25], [25, 34]), ([35, 25], [25, 35]), ([36, 25], [25, 36]), ([25], [25]), ([37, 38, 25], [25, 37, 38]), ([39, 25], [25, 39]), ([33, 40, 25, 25], [25, 33, 40]), ([41, 25], [25, 41]), ([25, 42, 22], [22, 25, 42]), ([22, 43], [22, 43])])
def spec_l19Piece.B6 : List Nat := [0, 1, 3, 7, 0, 31, 63, 127, 255, 511, 1023, 2047, 4095, 8191, 16383, 2047, 65535, 131071, 262143, 524287, 1048575, 2097151, 4194303, 8388607, 16777215, 33554431, 67108863, 134217727, 268435455, 536870911, 67108863, 1140850687, 4294967295, 8589934591, 67108863, 17246978047, 51606716415, 120326193151, 67108863, 532643053567, 1082398867455, 2199023255551, 4398046511103, 8796093022207, 17592186044415]
theorem spec_l19Piece.tab6 : rtab .any (opsOf Try.f72 6) = spec_l19Piece.T6 := by kernel_rfl
theorem spec_l19Piece.bits6 : waitsOk spec_l19Piece.T6.2 spec_l19Piece.B6 = true := by kernel_rfl
open List renaming setIfInBounds_toArray → sA, set_cons_zero → sB, set_cons_succ → sC
open Go.Proofs.YtakagkflgkoiiaaW.PrintWords.Aside0 renaming mk → mkA
open Go.Proofs.YtakagkflgkoiiaaX (dt_ bc_ p0_ p1_ bl_ cb_ bs0_ bs1_ bs2_ bs3_ bs4_ bs5_ bs6_ bs7_ bs8_ bs9_ bs10_ bs11_ bs12_)
abbrev spec_l19Piece.d0 : Array Bool := #[false, false, false, false, false, false, false, false, false, false, false, false, false, false, false, false, false, false, false, false, false, false, false, false, false, false, false, false, false, false, false, false, false, false, false, false, false, false, false, false, false, false, false, false, false]
abbrev spec_l19Piece.d1 : Array Bool := #[true, false, false, false, false, false, false, false, false, false, false, false, false, false, false, false, false, false, false, false, false, false, false, false, false, false, false, false, false, false, false, false, false, false, false, false, false, false, false, false, false, false, false, false, false]
abbrev spec_l19Piece.d2 : Array Bool := #[true, true, false, false, false, false, false, false, false, false, false, false, false, false, false, false, false, false, false, false, false, false, false, false, false, false, false, false, false, false, false, false, false, false, false, false, false, false, false, false, false, false, false, false, false]
abbrev spec_l19Piece.d3 : Array Bool := #[true, true, true, false, false, false, false, false, false, false, false, false, false, false, false, false, false, false, false, false, false, false, false, false, false, false, false, false, false, false, false, false, false, false, false, false, false, false, false, false, false, false, false, false, false]
abbrev spec_l19Piece.d4 : Array Bool := #[true, true, true, false, true, false, false, false, false, false, false, false, false, false, false, false, false, false, false, false, false, false, false, false, false, false, false, false, false, false, false, false, false, false, false, false, false, false, false, false, false, false, false, false, false]
abbrev spec_l19Piece.d5 : Array Bool := #[true, true, true, true, true, false, false, false, false, false, false, false, false, false, false, false, false, false, false, false, false, false, false, false, false, false, false, false, false, false, false, false, false, false, false, false, false, false, false, false, false, false, false, false, false]
abbrev spec_l19Piece.d6 : Array Bool := #[true, true, true, true, true, true, false, false, false, false, false, false, false, false, false, false, false, false, false, false, false, false, false, false, false, false, false, false, false, false, false, false, false, false, false, false, false, false, false, false, false, false, false, false, false]
abbrev spec_l19Piece.d7 : Array Bool := #[true, true, true, true, true, true, true, false, false, false, false, false, false, false, false, false, false, false, false, false, false, false, false, false, false, false, false, false, false, false, false, false, false, false, false, false, false, false, false, false, false, false, false, false, false]
abbrev spec_l19Piece.d8 : Array Bool := #[true, true, true, true, true, true, true, true, false, false, false, false, false, false, false, false, false, false, false, false, false, false, false, false, false, false, false, false, false, false, false, false, false, false, false, false, false, false, false, false, false, false, false, false, false]
abbrev spec_l19Piece.d9 : Array Bool := #[true, true, true, true, true, true, true, true, true, false, false, false, false, false, false, false, false, false, false, false, false, false, false, false, false, false, false, false, false, false, false, false, false, false, false, false, false, false, false, false, false, false, false, false, false]
abbrev spec_l19Piece.d10 : Array Bool := #[true, true, true, true, true, true, true, true, true, true, false, false, false, false, false, false, false, false, false, false, false, false, false, false, false, false, false, false, false, false, false, false, false, false, false, false, false, false, false, false, false, false, false, false, false]
abbrev spec_l19Piece.d11 : Array Bool := #[true, true, true, true, true, true, true, true, true, true, true, false, false, false, false, false, false, false, false, false, false, false, false, false, false, false, false, false, false, false, false, false, false, false, false, false, false, false, false, false, false, false, false, false, false]
abbrev spec_l19Piece.d12 : Array Bool := #[true, true, true, true, true, true, true, true, true, true, true, true, false, false, false, false, false, false, false, false, false, false, false, false, false, false, false, false, false, false, false, false, false, false, false, false, false, false, false, false, false, false, false, false, false]
abbrev spec_l19Piece.d13 : Array Bool := #[true, true, true, true, true, true, true, true, true, true, true, true, true, false, false, false, false, false, false, false, false, false, false, false, false, false, false, false, false, false, false, false, false, false, false, false, false, false, false, false, false, false, false, false, false]
abbrev spec_l19Piece.d14 : Array Bool := #[true, true, true, true, true, true, true, true, true, true, true, true, true, true, false, false, false, false, false, false, false, false, false, false, false, false, false, false, false, false, false, false, false, false, false, false, false, false, false, false, false, false, false, false, false]
abbrev spec_l19Piece.d15 : Array Bool := #[true, true, true, true, true, true, true, true, true, true, true, true, true, true, false, true, false, false, false, false, false, false, false, false, false, false, false, false, false, false, false, false, false, false, false, false, false, false, false, false, false, false, false, false, false]
abbrev spec_l19Piece.d16 : Array Bool := #[true, true, true, true, true, true, true, true, true, true, true, true, true, true, true, true, false, false, false, false, false, false, false, false, false, false, false, false, false, false, false, false, false, false, false, false, false, false, false, false, false, false, false, false, false]
abbrev spec_l19Piece.d17 : Array Bool := #[true, true, true, true, true, true, true, true, true, true, true, true, true, true, true, true, true, false, false, false, false, false, false, false, false, false, false, false, false, false, false, false, false, false, false, false, false, false, false, false, false, false, false, false, false]
abbrev spec_l19Piece.d18 : Array Bool := #[true, true, true, true, true, true, true, true, true, true, true, true, true, true, true, true, true, true, false, false, false, false, false, false, false, false, false, false, false, false, false, false, false, false, false, false, false, false, false, false, false, false, false, false, false]
abbrev spec_l19Piece.d19 : Array Bool := #[true, true, true, true, true, true, true, true, true, true, true, true, true, true, true, true, true, true, true, false, false, false, false, false, false, false, false, false, false, false, false, false, false, false, false, false, false, false, false, false, false, false, false, false, false]
abbrev spec_l19Piece.d20 : Array Bool := #[true, true, true, true, true, true, true, true, true, true, true, true, true, true, true, true, true, true, true, true, false, false, false, false, false, false, false, false, false, false, false, false, false, false, false, false, false, false, false, false, false, false, false, false, false]
abbrev spec_l19Piece.d21 : Array Bool := #[true, true, true, true, true, true, true, true, true, true, true, true, true, true, true, true, true, true, true, true, true, false, false, false, false, false, false, false, false, false, false, false, false, false, false, false, false, false, false, false, false, false, false, false, false]
abbrev spec_l19Piece.d22 : Array Bool := #[true, true, true, true, true, true, true, true, true, true, true, true, true, true, true, true, true, true, true, true, true, true, false, false, false, false, false, false, false, false, false, false, false, false, false, false, false, false, false, false, false, false, false, false, false]
abbrev spec_l19Piece.d23 : Array Bool := #[true, true, true, true, true, true, true, true, true, true, true, true, true, true, true, true, true, true, true, true, true, true, true, false, false, false, false, false, false, false, false, false, false, false, false, false, false, false, false, false, false, false, false, false, false]
abbrev spec_l19Piece.d24 : Array Bool := #[true, true, true, true, true, true, true, true, true, true, true, true, true, true, true, true, true, true, true, true, true, true, true, true, false, false, false, false, false, false, false, false, false, false, false, false, false, false, false, false, false, false, false, false, false]
abbrev spec_l19Piece.d25 : Array Bool := #[true, true, true, true, true, true, true, true, true, true, true, true, true, true, true, true, true, true, true, true, true, true, true, true, true, false, false, false, false, false, false, false, false, false, false, false, false, false, false, false, false, false, false, false, false]
abbrev spec_l19Piece.d26 : Array Bool := #[true, true, true, true, true, true, true, true, true, true, true, true, true, true, true, true, true, true, true, true, true, true, true, true, true, true, false, false, false, false, false, false, false, false, false, false, false, false, false, false, false, false, false, false, false]
abbrev spec_l19Piece.d27 : Array Bool := #[true, true, true, true, true, true, true, true, true, true, true, true, true, true, true, true, true, true, true, true, true, true, true, true, true, true, true, false, false, false, false, false, false, false, false, false, false, false, false, false, false, false, false, false, false]
abbrev spec_l19Piece.d28 : Array Bool := #[true, true, true, true, true, true, true, true, true, true, true, true, true, true, true, true, true, true, true, true, true, true, true, true, true, true, true, true, false, false, false, false, false, false, false, false, false, false, false, false, false, false, false, false, false]
abbrev spec_l19Piece.d29 : Array Bool := #[true, true, true, true, true, true, true, true, true, true, true, true, true, true, true, true, true, true, true, true, true, true, true, true, true, true, true, true, true, false, false, false, false, false, false, false, false, false, false, false, false, false, false, false, false]
abbrev spec_l19Piece.d30 : Array Bool := #[true, true, true, true, true, true, true, true, true, true, true, true, true, true, true, true, true, true, true, true, true, true, true, true, true, true, true, true, true, false, true, false, false, false, false, false, false, false, false, false, false, false, false, false, false]
abbrev spec_l19Piece.d31 : Array Bool := #[true, true, true, true, true, true, true, true, true, true, true, true, true, true, true, true, true, true, true, true, true, true, true, true, true, true, true, true, true, false, true, true, false, false, false, false, false, false, false, false, false, false, false, false, false]
abbrev spec_l19Piece.d32 : Array Bool := #[true, true, true, true, true, true, true, true, true, true, true, true, true, true, true, true, true, true, true, true, true, true, true, true, true, true, true, true, true, false, true, true, false, false, true, false, false, false, false, false, false, false, false, false, false]
abbrev spec_l19Piece.d33 : Array Bool := #[true, true, true, true, true, true, true, true, true, true, true, true, true, true, true, true, true, true, true, true, true, true, true, true, true, true, true, true, true, false, true, true, false, false, true, true, false, false, false, false, false, false, false, false, false]
abbrev spec_l19Piece.d34 : Array Bool := #[true, true, true, true, true, true, true, true, true, true, true, true, true, true, true, true, true, true, true, true, true, true, true, true, true, true, true, true, true, false, true, true, false, false, true, true, true, false, false, false, false, false, false, false, false]
abbrev spec_l19Piece.d35 : Array Bool := #[true, true, true, true, true, true, true, true, true, true, true, true, true, true, true, true, true, true, true, true, true, true, true, true, true, true, true, true, true, false, true, true, false, false, true, true, true, false, true, false, false, false, false, false, false]
abbrev spec_l19Piece.d36 : Array Bool := #[true, true, true, true, true, true, true, true, true, true, true, true, true, true, true, true, true, true, true, true, true, true, true, true, true, true, true, true, true, true, true, true, false, false, true, true, true, false, true, false, false, false, false, false, false]
abbrev spec_l19Piece.d37 : Array Bool := #[true, true, true, true, true, true, true, true, true, true, true, true, true, true, true, true, true, true, true, true, true, true, true, true, true, true, true, true, true, true, true, true, true, false, true, true, true, false, true, false, false, false, false, false, false]
abbrev spec_l19Piece.d38 : Array Bool := #[true, true, true, true, true, true, true, true, true, true, true, true, true, true, true, true, true, true, true, true, true, true, true, true, true, true, true, true, true, true, true, true, true, true, true, true, true, false, true, false, false, false, false, false, false]
abbrev spec_l19Piece.d39 : Array Bool := #[true, true, true, true, true, true, true, true, true, true, true, true, true, true, true, true, true, true, true, true, true, true, true, true, true, true, true, true, true, true, true, true, true, true, true, true, true, true, true, false, false, false, false, false, false]
abbrev spec_l19Piece.d40 : Array Bool := #[true, true, true, true, true, true, true, true, true, true, true, true, true, true, true, true, true, true, true, true, true, true, true, true, true, true, true, true, true, true, true, true, true, true, true, true, true, true, true, true, false, false, false, false, false]
abbrev spec_l19Piece.d41 : Array Bool := #[true, true, true, true, true, true, true, true, true, true, true, true, true, true, true, true, true, true, true, true, true, true, true, true, true, true, true, true, true, true, true, true, true, true, true, true, true, true, true, true, true, false, false, false, false]
abbrev spec_l19Piece.d42 : Array Bool := #[true, true, true, true, true, true, true, true, true, true, true, true, true, true, true, true, true, true, true, true, true, true, true, true, true, true, true, true, true, true, true, true, true, true, true, true, true, true, true, true, true, true, false, false, false]
abbrev spec_l19Piece.d43 : Array Bool := #[true, true, true, true, true, true, true, true, true, true, true, true, true, true, true, true, true, true, true, true, true, true, true, true, true, true, true, true, true, true, true, true, true, true, true, true, true, true, true, true, true, true, true, false, false]
abbrev spec_l19Piece.d44 : Array Bool := #[true, true, true, true, true, true, true, true, true, true, true, true, true, true, true, true, true, true, true, true, true, true, true, true, true, true, true, true, true, true, true, true, true, true, true, true, true, true, true, true, true, true, true, true, false]
abbrev spec_l19Piece.d45 : Array Bool := #[true, true, true, true, true, true, true, true, true, true, true, true, true, true, true, true, true, true, true, true, true, true, true, true, true, true, true, true, true, true, true, true, true, true, true, true, true, true, true, true, true, true, true, true, true]
abbrev spec_l19Piece.d46 : Array Bool := #[true, true, true, true, true, true, true, true, true, true, true, true, true, true, true, true, true, true, true, true, true, true, true, true, true, true, true, true, true, true, false, false, false, false, false, false, false, false, false, false, false, false, false, false, false]
abbrev spec_l19Piece.d47 : Array Bool := #[true, true, true, true, true, true, true, true, true, true, true, true, true, true, true, true, true, true, true, true, true, true, true, true, true, true, true, true, true, true, true, false, false, false, false, false, false, false, false, false, false, false, false, false, false]
abbrev spec_l19Piece.d48 : Array Bool := #[true, true, true, true, true, true, true, true, true, true, true, true, true, true, true, true, true, true, true, true, true, true, true, true, true, true, true, true, true, true, true, true, false, false, false, false, false, false, false, false, false, false, false, false, false]
abbrev spec_l19Piece.d49 : Array Bool := #[true, true, true, true, true, true, true, true, true, true, true, true, true, true, true, true, true, true, true, true, true, true, true, true, true, true, true, true, true, true, true, true, true, false, false, false, false, false, false, false, false, false, false, false, false]
abbrev spec_l19Piece.d50 : Array Bool := #[true, true, true, true, true, true, true, true, true, true, true, true, true, true, true, true, true, true, true, true, true, true, true, true, true, true, true, true, true, true, true, true, true, true, false, false, false, false, false, false, false, false, false, false, false]
abbrev spec_l19Piece.d51 : Array Bool := #[true, true, true, true, true, true, true, true, true, true, true, true, true, true, true, true, true, true, true, true, true, true, true, true, true, true, true, true, true, true, true, true, true, true, true, false, false, false, false, false, false, false, false, false, false]
abbrev spec_l19Piece.d52 : Array Bool := #[true, true, true, true, true, true, true, true, true, true, true, true, true, true, true, true, true, true, true, true, true, true, true, true, true, true, true, true, true, true, true, true, true, true, true, true, false, false, false, false, false, false, false, false, false]
abbrev spec_l19Piece.d53 : Array Bool := #[true, true, true, true, true, true, true, true, true, true, true, true, true, true, true, true, true, true, true, true, true, true, true, true, true, true, true, true, true, true, true, true, true, true, true, true, true, false, false, false, false, false, false, false, false]
abbrev spec_l19Piece.d54 : Array Bool := #[true, true, true, true, true, true, true, true, true, true, true, true, true, true, true, true, true, true, true, true, true, true, true, true, true, true, true, true, true, true, true, true, true, true, true, true, true, true, false, false, false, false, false, false, false]
abbrev spec_l19Piece.d55 : Array Bool := #[true, true, true, true, true, true, true, true, true, true, true, true, true, true, true, false, false, false, false, false, false, false, false, false, false, false, false, false, false, false, false, false, false, false, false, false, false, false, false, false, false, false, false, false, false]
set_option maxHeartbeats 8000000 in
set_option maxRecDepth 100000 in
theorem spec_l19Piece.calls (k : Nat) (A0 : Option Addr) (l0 : List (S53)) (r : Bool) (w : World) (hr0 : Kd.C k53 w A0 l0.length l0) (h : spec_l19Piece.f k l0 = some r) :
 Calls Try.prog 72 #[.pointer A0] w fun e w' => e = .returned (.bool r) ∧ Below w.heap.size w w' := by
 have hu105 := Try.underlying105
 have HR0 := mkA hr0
 clear hr0
 have HB := mkA (Below.refl w.heap.size w)
 have H : (if 0 < (l0.length : Int) then ((spec_l01Name.f k ((rd_T53 l0 0).f0)).bind fun t125 => (if t125 = true then (if (((rd_T53 l0 0).f1).length : Int) < 1 then (spec_l19Piece.j0 k true l0) else (if (((rd_T53 l0 0).f1).length : Int) > 6 then (spec_l19Piece.j0 k true l0) else ((spec_l00In.f ((rd_T53 l0 0).f2) 0 24).bind fun t129 => (spec_l19Piece.j0 k (!t129) l0)))) else (spec_l19Piece.j0 k true l0))) else (none)) = some r := h
 clear h
 have HC2 := mkA H
 clear H
 go_enter Try.func72, Try.ntmps72
 go_upto_region 1 with (fail)
 go_cut [35] (fun v35 wc => ∃ (kq : Nat) (x35_1 : Bool), v35 = .bool x35_1 ∧ Aside0 (spec_l19Piece.j0 kq x35_1 l0 = some r) ∧ Aside0 (kq ≤ k) ∧ Aside0 (Below w.heap.size w wc))
 case first =>
  have H := HC2.out
  clear HC2
  by_cases c3 : 0 < (l0.length : Int)
  rotate_left
  · rw [if_neg c3] at H
    exact absurd H (by simp)
  rw [if_pos c3] at H
  have c3b0 : decide (0 < (l0.length : Int)) = true := decide_eq_true c3
  have c3b1 : decide (0 < l0.length) = true := decide_eq_true (by omega)
  clear c3
  (first | rw [c3b0] | (simp only [i64_w, i32_w]; rw [c3b0]) | skip)
  replace H := Option.bind_eq_some_iff.mp H
  obtain ⟨t125, A40, H⟩ := H
  replace H : (if t125 = true then (if (((rd_T53 l0 0).f1).length : Int) < 1 then (spec_l19Piece.j0 k true l0) else (if (((rd_T53 l0 0).f1).length : Int) > 6 then (spec_l19Piece.j0 k true l0) else ((spec_l00In.f ((rd_T53 l0 0).f2) 0 24).bind fun t129 => (spec_l19Piece.j0 k (!t129) l0)))) else (spec_l19Piece.j0 k true l0)) = some r := H
  have A4 := mkA A40
  clear A40
  by_cases c5 : t125 = true
  rotate_left
  · replace c5 := Bool.eq_false_iff.mpr c5
    subst c5
    have H1 : (spec_l19Piece.j0 k true l0) = some r := by rw [if_neg (show ¬ (false = true) by decide)] at H; exact H
    clear H
    have H := H1
    clear H1
    have H' := mkA H
    clear H
    have p124 : 0 ≤ (0 : Int) := (by omega)
    have q124 : 0 < (l0.length : Int) := dt_
    obtain ⟨ad124, A124_1, c124_1, e124, hx124_0, hx124_1, hx124_2, hx124_3, hl124_1, hi124_1⟩ := at0_T53 HR0.out q124
    cases e124
    have qi124 : (0 < l0.length) = True := eq_true (by omega)
    replace hx124_0 := bc_ HB.out hx124_0
    replace hx124_1 := bc_ HB.out hx124_1
    replace hx124_2 := bc_ HB.out hx124_2
    replace hx124_3 := bc_ HB.out hx124_3
    have HR124_1 := mkA hi124_1
    have HC124_1 := mkA hl124_1
    clear hi124_1 hl124_1
    replace p124 := eq_true p124
    replace q124 := eq_true q124
    go_wp2_with (first | ((with_reducible refine gate_callee (f := 91) rfl ?_); refine goesL_ (some 10) rfl rfl Try.func91 (by kernel_rfl) rfl #[.string ((rd_T53 l0 0).f0)] rfl (by (try simp only [List.map_toArray, List.map_cons, List.map_nil]); first | done | rfl | (simp only [List.length_drop, List.length_take]; rfl)) ?_; (with_reducible refine (spec_l01Name.calls k ((rd_T53 l0 0).f0) false _ A4.out).mono ?_); rintro e w' ⟨rfl, ⟨nd, rfl⟩⟩; refine ⟨_, rfl, ?_⟩))
    go_meet
    case rel => exact ⟨_, (true), (by first | rfl | (simp; done) | (simp [*]; done) | (simp [i64_w, i32_w]; done)), H', ⟨by first | omega | exact Nat.le_refl _⟩, ⟨by repeat (first | (with_reducible first | exact HB.out | apply below_alloc | apply pw_below_drewN | apply below_drew1) | exact HB.out)⟩⟩
  subst c5
  have H1 : (if (((rd_T53 l0 0).f1).length : Int) < 1 then (spec_l19Piece.j0 k true l0) else (if (((rd_T53 l0 0).f1).length : Int) > 6 then (spec_l19Piece.j0 k true l0) else ((spec_l00In.f ((rd_T53 l0 0).f2) 0 24).bind fun t129 => (spec_l19Piece.j0 k (!t129) l0)))) = some r := by rw [if_pos rfl] at H; exact H
  clear H
  have H := H1
  clear H1
  by_cases c6 : (((rd_T53 l0 0).f1).length : Int) < 1
  · rw [if_pos c6] at H
    have c6b0 : decide ((((rd_T53 l0 0).f1).length : Int) < 1) = true := decide_eq_true c6
    have c6b1 : decide (((rd_T53 l0 0).f1).length < 1) = true := decide_eq_true (by omega)
    clear c6
    have H' := mkA H
    clear H
    have p124 : 0 ≤ (0 : Int) := (by omega)
    have q124 : 0 < (l0.length : Int) := dt_
    obtain ⟨ad124, A124_1, c124_1, e124, hx124_0, hx124_1, hx124_2, hx124_3, hl124_1, hi124_1⟩ := at0_T53 HR0.out q124
    cases e124
    have qi124 : (0 < l0.length) = True := eq_true (by omega)
    replace hx124_0 := bc_ HB.out hx124_0
    replace hx124_1 := bc_ HB.out hx124_1
    replace hx124_2 := bc_ HB.out hx124_2
    replace hx124_3 := bc_ HB.out hx124_3
    have HR124_1 := mkA hi124_1
    have HC124_1 := mkA hl124_1
    clear hi124_1 hl124_1
    replace p124 := eq_true p124
    replace q124 := eq_true q124
    go_wp2_with (first | ((with_reducible refine gate_callee (f := 91) rfl ?_); refine goesL_ (some 10) rfl rfl Try.func91 (by kernel_rfl) rfl #[.string ((rd_T53 l0 0).f0)] rfl (by (try simp only [List.map_toArray, List.map_cons, List.map_nil]); first | done | rfl | (simp only [List.length_drop, List.length_take]; rfl)) ?_; (with_reducible refine (spec_l01Name.calls k ((rd_T53 l0 0).f0) true _ A4.out).mono ?_); rintro e w' ⟨rfl, ⟨nd, rfl⟩⟩; refine ⟨_, rfl, ?_⟩; have p126 : 0 ≤ (0 : Int) := (by omega); have q126 : 0 < (l0.length : Int) := dt_; obtain ⟨ad126, A126_1, c126_1, e126, hx126_0, hx126_1, hx126_2, hx126_3, hl126_1, hi126_1⟩ := at0_T53 HR0.out q126; obtain rfl : ad124 = ad126 := (by injection e126); have qi126 : (0 < l0.length) = True := eq_true (by omega); replace hx126_0 := bc_ HB.out hx126_0; replace hx126_1 := bc_ HB.out hx126_1; replace hx126_2 := bc_ HB.out hx126_2; replace hx126_3 := bc_ HB.out hx126_3; have HR126_1 := mkA hi126_1; have HC126_1 := mkA hl126_1; clear hi126_1 hl126_1; replace p126 := eq_true p126; replace q126 := eq_true q126; have ea_ := Option.some.inj (hx124_1.symm.trans hx126_1); injection ea_ with ea_ en_ ec_; subst ea_; subst ec_; clear en_))
    go_meet
    case rel => exact ⟨_, (true), (by first | rfl | (simp; done) | (simp [*]; done) | (simp [i64_w, i32_w]; done)), H', ⟨by first | omega | exact Nat.le_refl _⟩, ⟨by repeat (first | (with_reducible first | exact HB.out | apply below_alloc | apply pw_below_drewN | apply below_drew1) | exact HB.out)⟩⟩
  · rw [if_neg c6] at H
    have c6b0 : decide ((((rd_T53 l0 0).f1).length : Int) < 1) = false := decide_eq_false c6
    have c6b1 : decide (((rd_T53 l0 0).f1).length < 1) = false := decide_eq_false (by omega)
    clear c6
    by_cases c7 : (((rd_T53 l0 0).f1).length : Int) > 6
    · rw [if_pos c7] at H
      have c7b0 : decide (6 < (((rd_T53 l0 0).f1).length : Int)) = true := decide_eq_true c7
      have c7b1 : decide (6 < ((rd_T53 l0 0).f1).length) = true := decide_eq_true (by omega)
      clear c7
      have H' := mkA H
      clear H
      have p124 : 0 ≤ (0 : Int) := (by omega)
      have q124 : 0 < (l0.length : Int) := dt_
      obtain ⟨ad124, A124_1, c124_1, e124, hx124_0, hx124_1, hx124_2, hx124_3, hl124_1, hi124_1⟩ := at0_T53 HR0.out q124
      cases e124
      have qi124 : (0 < l0.length) = True := eq_true (by omega)
      replace hx124_0 := bc_ HB.out hx124_0
      replace hx124_1 := bc_ HB.out hx124_1
      replace hx124_2 := bc_ HB.out hx124_2
      replace hx124_3 := bc_ HB.out hx124_3
      have HR124_1 := mkA hi124_1
      have HC124_1 := mkA hl124_1
      clear hi124_1 hl124_1
      replace p124 := eq_true p124
      replace q124 := eq_true q124
      go_wp2_with (first | ((with_reducible refine gate_callee (f := 91) rfl ?_); refine goesL_ (some 10) rfl rfl Try.func91 (by kernel_rfl) rfl #[.string ((rd_T53 l0 0).f0)] rfl (by (try simp only [List.map_toArray, List.map_cons, List.map_nil]); first | done | rfl | (simp only [List.length_drop, List.length_take]; rfl)) ?_; (with_reducible refine (spec_l01Name.calls k ((rd_T53 l0 0).f0) true _ A4.out).mono ?_); rintro e w' ⟨rfl, ⟨nd, rfl⟩⟩; refine ⟨_, rfl, ?_⟩; have p126 : 0 ≤ (0 : Int) := (by omega); have q126 : 0 < (l0.length : Int) := dt_; obtain ⟨ad126, A126_1, c126_1, e126, hx126_0, hx126_1, hx126_2, hx126_3, hl126_1, hi126_1⟩ := at0_T53 HR0.out q126; obtain rfl : ad124 = ad126 := (by injection e126); have qi126 : (0 < l0.length) = True := eq_true (by omega); replace hx126_0 := bc_ HB.out hx126_0; replace hx126_1 := bc_ HB.out hx126_1; replace hx126_2 := bc_ HB.out hx126_2; replace hx126_3 := bc_ HB.out hx126_3; have HR126_1 := mkA hi126_1; have HC126_1 := mkA hl126_1; clear hi126_1 hl126_1; replace p126 := eq_true p126; replace q126 := eq_true q126; have ea_ := Option.some.inj (hx124_1.symm.trans hx126_1); injection ea_ with ea_ en_ ec_; subst ea_; subst ec_; clear en_; have p127 : 0 ≤ (0 : Int) := (by omega); have q127 : 0 < (l0.length : Int) := dt_; obtain ⟨ad127, A127_1, c127_1, e127, hx127_0, hx127_1, hx127_2, hx127_3, hl127_1, hi127_1⟩ := at0_T53 HR0.out q127; obtain rfl : ad124 = ad127 := (by injection e127); have qi127 : (0 < l0.length) = True := eq_true (by omega); replace hx127_0 := bc_ HB.out hx127_0; replace hx127_1 := bc_ HB.out hx127_1; replace hx127_2 := bc_ HB.out hx127_2; replace hx127_3 := bc_ HB.out hx127_3; have HR127_1 := mkA hi127_1; have HC127_1 := mkA hl127_1; clear hi127_1 hl127_1; replace p127 := eq_true p127; replace q127 := eq_true q127; have ea_ := Option.some.inj (hx124_1.symm.trans hx127_1); injection ea_ with ea_ en_ ec_; subst ea_; subst ec_; clear en_))
      go_meet
      case rel => exact ⟨_, (true), (by first | rfl | (simp; done) | (simp [*]; done) | (simp [i64_w, i32_w]; done)), H', ⟨by first | omega | exact Nat.le_refl _⟩, ⟨by repeat (first | (with_reducible first | exact HB.out | apply below_alloc | apply pw_below_drewN | apply below_drew1) | exact HB.out)⟩⟩
    · rw [if_neg c7] at H
      have c7b0 : decide (6 < (((rd_T53 l0 0).f1).length : Int)) = false := decide_eq_false c7
      have c7b1 : decide (6 < ((rd_T53 l0 0).f1).length) = false := decide_eq_false (by omega)
      clear c7
      replace H := Option.bind_eq_some_iff.mp H
      obtain ⟨t129, A80, H⟩ := H
      replace H : (spec_l19Piece.j0 k (!t129) l0) = some r := H
      have A8 := mkA A80
      clear A80
      have H' := mkA H
      clear H
      have p124 : 0 ≤ (0 : Int) := (by omega)
      have q124 : 0 < (l0.length : Int) := dt_
      obtain ⟨ad124, A124_1, c124_1, e124, hx124_0, hx124_1, hx124_2, hx124_3, hl124_1, hi124_1⟩ := at0_T53 HR0.out q124
      cases e124
      have qi124 : (0 < l0.length) = True := eq_true (by omega)
      replace hx124_0 := bc_ HB.out hx124_0
      replace hx124_1 := bc_ HB.out hx124_1
      replace hx124_2 := bc_ HB.out hx124_2
      replace hx124_3 := bc_ HB.out hx124_3
      have HR124_1 := mkA hi124_1
      have HC124_1 := mkA hl124_1
      clear hi124_1 hl124_1
      replace p124 := eq_true p124
      replace q124 := eq_true q124
      go_wp2_with (first | ((with_reducible refine gate_callee (f := 91) rfl ?_); refine goesL_ (some 10) rfl rfl Try.func91 (by kernel_rfl) rfl #[.string ((rd_T53 l0 0).f0)] rfl (by (try simp only [List.map_toArray, List.map_cons, List.map_nil]); first | done | rfl | (simp only [List.length_drop, List.length_take]; rfl)) ?_; (with_reducible refine (spec_l01Name.calls k ((rd_T53 l0 0).f0) true _ A4.out).mono ?_); rintro e w' ⟨rfl, ⟨nd, rfl⟩⟩; refine ⟨_, rfl, ?_⟩; have p126 : 0 ≤ (0 : Int) := (by omega); have q126 : 0 < (l0.length : Int) := dt_; obtain ⟨ad126, A126_1, c126_1, e126, hx126_0, hx126_1, hx126_2, hx126_3, hl126_1, hi126_1⟩ := at0_T53 HR0.out q126; obtain rfl : ad124 = ad126 := (by injection e126); have qi126 : (0 < l0.length) = True := eq_true (by omega); replace hx126_0 := bc_ HB.out hx126_0; replace hx126_1 := bc_ HB.out hx126_1; replace hx126_2 := bc_ HB.out hx126_2; replace hx126_3 := bc_ HB.out hx126_3; have HR126_1 := mkA hi126_1; have HC126_1 := mkA hl126_1; clear hi126_1 hl126_1; replace p126 := eq_true p126; replace q126 := eq_true q126; have ea_ := Option.some.inj (hx124_1.symm.trans hx126_1); injection ea_ with ea_ en_ ec_; subst ea_; subst ec_; clear en_; have p127 : 0 ≤ (0 : Int) := (by omega); have q127 : 0 < (l0.length : Int) := dt_; obtain ⟨ad127, A127_1, c127_1, e127, hx127_0, hx127_1, hx127_2, hx127_3, hl127_1, hi127_1⟩ := at0_T53 HR0.out q127; obtain rfl : ad124 = ad127 := (by injection e127); have qi127 : (0 < l0.length) = True := eq_true (by omega); replace hx127_0 := bc_ HB.out hx127_0; replace hx127_1 := bc_ HB.out hx127_1; replace hx127_2 := bc_ HB.out hx127_2; replace hx127_3 := bc_ HB.out hx127_3; have HR127_1 := mkA hi127_1; have HC127_1 := mkA hl127_1; clear hi127_1 hl127_1; replace p127 := eq_true p127; replace q127 := eq_true q127; have ea_ := Option.some.inj (hx124_1.symm.trans hx127_1); injection ea_ with ea_ en_ ec_; subst ea_; subst ec_; clear en_; have p128 : 0 ≤ (0 : Int) := (by omega); have q128 : 0 < (l0.length : Int) := dt_; obtain ⟨ad128, A128_1, c128_1, e128, hx128_0, hx128_1, hx128_2, hx128_3, hl128_1, hi128_1⟩ := at0_T53 HR0.out q128; obtain rfl : ad124 = ad128 := (by injection e128); have qi128 : (0 < l0.length) = True := eq_true (by omega); replace hx128_0 := bc_ HB.out hx128_0; replace hx128_1 := bc_ HB.out hx128_1; replace hx128_2 := bc_ HB.out hx128_2; replace hx128_3 := bc_ HB.out hx128_3; have HR128_1 := mkA hi128_1; have HC128_1 := mkA hl128_1; clear hi128_1 hl128_1; replace p128 := eq_true p128; replace q128 := eq_true q128; have ea_ := Option.some.inj (hx124_1.symm.trans hx128_1); injection ea_ with ea_ en_ ec_; subst ea_; subst ec_; clear en_) | (go_at_call 60; (with_reducible refine (spec_l00In.calls ((rd_T53 l0 0).f2) 0 24 t129 _ A8.out).mono ?_); rintro e w' ⟨rfl, ⟨nd, rfl⟩⟩))
      go_meet
      case rel => exact ⟨_, (!t129), (by first | rfl | (simp; done) | (simp [*]; done) | (simp [i64_w, i32_w]; done)), H', ⟨by first | omega | exact Nat.le_refl _⟩, ⟨by repeat (first | (with_reducible first | exact HB.out | apply below_alloc | apply pw_below_drewN | apply below_drew1) | exact HB.out)⟩⟩
 case rest =>
  clear HC2
  try clear c1
  try clear p1
  try clear q1
  try clear hx1
  try clear qi1
  try clear p2
  try clear c3
  try clear c3b0
  try clear c3b1
  try clear c5
  try clear c6
  try clear c6b0
  try clear c6b1
  try clear c7
  try clear c7b0
  try clear c7b1
  try clear hx124_0
  try clear hx124_1
  try clear hx124_2
  try clear hx124_3
  try clear hx126_0
  try clear hx126_1
  try clear hx126_2
  try clear hx126_3
  try clear hx127_0
  try clear hx127_1
  try clear hx127_2
  try clear hx127_3
  try clear hx128_0
  try clear hx128_1
  try clear hx128_2
  try clear hx128_3
  try clear p124
  try clear p126
  try clear p127
  try clear p128
  try clear q124
  try clear q126
  try clear q127
  try clear q128
  obtain ⟨kq, x35_1, rfl, HA, HJ1, HB⟩ := hcut
  cases kq with
  | zero => exact absurd HA.out (by simp [spec_l19Piece.j0])
  | succ kj1 =>
   have H := HA.out
   clear HA
   simp only [spec_l19Piece.j0] at H
   by_cases c9 : x35_1 = true
   · subst c9
     have H1 : (some false) = some r := by rw [if_pos rfl] at H; exact H
     clear H
     have H := H1
     clear H1
     obtain rfl := Option.some.inj H
     go_wp2
     go_ret
     exact ⟨by first | rfl | (simp [errW_none, errW_some] <;> rfl) | (simp [*, errW_none, errW_some] <;> rfl), by repeat (first | (with_reducible first | exact HB.out | apply below_alloc | apply pw_below_drewN | apply below_drew1) | exact HB.out)⟩
   · replace c9 := Bool.eq_false_iff.mpr c9
     subst c9
     have H1 : (spec_l19Piece.l0 kj1 0 l0) = some r := by rw [if_neg (show ¬ (false = true) by decide)] at H; exact H
     clear H
     have H := H1
     clear H1
     have H' := mkA H
     clear H
     go_wp2
     go_loopg [3] kj1 (fun kq v3 w' => ∃ (x3_2 : Int), v3 = .int .i64 x3_2 ∧ Aside0 (spec_l19Piece.l0 kq x3_2 l0 = some r) ∧ Aside0 (kq ≤ kj1) ∧ Aside0 (Below w.heap.size w w'))
     case atStart => exact ⟨(0), (by first | rfl | (simp; done) | (simp [*]; done) | (simp [i64_w, i32_w]; done)), H', ⟨Nat.le_refl _⟩, ⟨by repeat (first | (with_reducible first | exact HB.out | apply below_alloc | apply pw_below_drewN | apply below_drew1) | exact HB.out)⟩⟩
     case round =>
      clear H'
      try clear c1
      try clear p1
      try clear q1
      try clear hx1
      try clear qi1
      try clear p2
      try clear c3
      try clear c3b0
      try clear c3b1
      try clear c5
      try clear c6
      try clear c6b0
      try clear c6b1
      try clear c7
      try clear c7b0
      try clear c7b1
      try clear c9
      try clear hx124_0
      try clear hx124_1
      try clear hx124_2
      try clear hx124_3
      try clear hx126_0
      try clear hx126_1
      try clear hx126_2
      try clear hx126_3
      try clear hx127_0
      try clear hx127_1
      try clear hx127_2
      try clear hx127_3
      try clear hx128_0
      try clear hx128_1
      try clear hx128_2
      try clear hx128_3
      try clear p1
      try clear p124
      try clear p126
      try clear p127
      try clear p128
      try clear p2
      try clear q1
      try clear q124
      try clear q126
      try clear q127
      try clear q128
      obtain ⟨x3_2, rfl, HA, HK2, HB⟩ := hrel
      cases gk with
      | zero => exact absurd HA.out (by simp [spec_l19Piece.l0])
      | succ k2 =>
       have H := HA.out
       clear HA
       simp only [spec_l19Piece.l0] at H
       by_cases c10 : 0 < (l0.length : Int)
       rotate_left
       · rw [if_neg c10] at H
         exact absurd H (by simp)

       rw [if_pos c10] at H
       have c10b0 : decide (0 < (l0.length : Int)) = true := decide_eq_true c10
       have c10b1 : decide (0 < l0.length) = true := decide_eq_true (by omega)
       clear c10
       by_cases c11 : x3_2 < (((rd_T53 l0 0).f1).length : Int)
       rotate_left
       · rw [if_neg c11] at H
         have c11b0 : decide (x3_2 < (((rd_T53 l0 0).f1).length : Int)) = false := decide_eq_false c11
         clear c11
         replace H := Option.bind_eq_some_iff.mp H
         obtain ⟨⟨t132, t133, t134, t135⟩, A300, H⟩ := H
         replace H : (if t132 = 0 then (some (t133 == 0)) else (some false)) = some r := H
         have A30 := mkA A300
         clear A300
         by_cases c31 : t132 = 0
         rotate_left
         · rw [if_neg c31] at H
           have c31b0 : (t132 == 0) = false := beq_eq_false_iff_ne.mpr c31
           have c31b1 : (t132 != 0) = true := bne_iff_ne.mpr c31
           obtain rfl := Option.some.inj H
           have p130 : 0 ≤ (0 : Int) := (by omega)
           have q130 : 0 < (l0.length : Int) := dt_
           obtain ⟨ad130, A130_1, c130_1, e130, hx130_0, hx130_1, hx130_2, hx130_3, hl130_1, hi130_1⟩ := at0_T53 HR0.out q130
           cases e130
           have qi130 : (0 < l0.length) = True := eq_true (by omega)
           replace hx130_0 := bc_ HB.out hx130_0
           replace hx130_1 := bc_ HB.out hx130_1
           replace hx130_2 := bc_ HB.out hx130_2
           replace hx130_3 := bc_ HB.out hx130_3
           have HR130_1 := mkA hi130_1
           have HC130_1 := mkA hl130_1
           clear hi130_1 hl130_1
           replace p130 := eq_true p130
           replace q130 := eq_true q130
           have p131 : 0 ≤ (0 : Int) := (by omega)
           have q131 : 0 < (l0.length : Int) := dt_
           obtain ⟨ad131, A131_1, c131_1, e131, hx131_0, hx131_1, hx131_2, hx131_3, hl131_1, hi131_1⟩ := at0_T53 HR0.out q131
           obtain rfl : ad130 = ad131 := (by injection e131)
           have qi131 : (0 < l0.length) = True := eq_true (by omega)
           replace hx131_0 := bc_ HB.out hx131_0
           replace hx131_1 := bc_ HB.out hx131_1
           replace hx131_2 := bc_ HB.out hx131_2
           replace hx131_3 := bc_ HB.out hx131_3
           have HR131_1 := mkA hi131_1
           have HC131_1 := mkA hl131_1
           clear hi131_1 hl131_1
           replace p131 := eq_true p131
           replace q131 := eq_true q131
           have ea_ := Option.some.inj (hx130_1.symm.trans hx131_1)
           injection ea_ with ea_ en_ ec_
           subst ea_
           subst ec_
           clear en_
           go_wp2_with (first | ((with_reducible refine gate_callee (f := 93) rfl ?_); refine goesL_ (some 95) rfl rfl Try.func93 (by kernel_rfl) rfl #[.slice A130_1 ((rd_T53 l0 0).f1).length c130_1] rfl (by (try simp only [List.map_toArray, List.map_cons, List.map_nil]); first | done | rfl | (simp only [List.length_drop, List.length_take]; rfl)) ?_; (with_reducible refine (spec_l03Bounds.calls k2 _ _ ((rd_T53 l0 0).f1) t132 t133 t134 t135 _ ?side1 ?side2 A30.out).mono ?_); (case side1 => exact cb_ HR131_1.out HB.out); (case side2 => exact HC131_1.out); rintro e w38 ⟨rfl, hb⟩; refine ⟨_, rfl, ?_⟩; have n0_ := mkA (below_step (bs0_ HB.out) hb); clear HB; have HB := n0_; clear n0_; (try clear hb); (try clear hb2); (try clear hk); (try clear hi)) | ((with_reducible refine gate_dst (N := 4) rfl ?_); (try (refine gate_guard (by rfl) ?_; dsimp only)); refine box_event ?hg (N := 4) ?hd (cs := #[.int .i64 0, .int .i64 0]) (t := 105) ?hr ?_; (case hd => rfl); (case hg => rfl); (case hr => first | (go_simp; done) | (go_simp; rfl)); intro gb136 hg w39 hbox hb; have n0_ := mkA (below_step (bs0_ HB.out) hb); have n1_ := mkA (hbox); have n2_ := mkA ((by rw [hg]; exact (below_size (bs0_ HB.out)) : w.heap.size ≤ gb136)); have n3_ := mkA ((by rw [hg]; exact (below_size (bs0_ HB.out)) : w.heap.size ≤ gb136)); clear HB; have HB := n0_; have BK136 := n1_; have GW136 := n2_; have GE136 := n3_; clear n0_ n1_ n2_ n3_; clear hb hbox hg) | ((with_reducible refine gate_dst (N := 5) rfl ?_); (try (refine gate_guard (by rfl) ?_; dsimp only)); refine box_event ?hg (N := 5) ?hd (cs := #[.int .i64 0, .int .i64 0]) (t := 105) ?hr ?_; (case hd => rfl); (case hg => rfl); (case hr => first | (go_simp; done) | (go_simp; rfl)); intro gb137 hg w40 hbox hb; have n0_ := mkA (blk_below (g := gb136) (o := .cells #[.int .i64 0, .int .i64 0] 105 (0, 0)) (bl_ BK136.out) hb); have n1_ := mkA (below_step (bs1_ HB.out GE136.out) hb); have n2_ := mkA (hbox); have n3_ := mkA ((by rw [hg]; exact (below_size (bs1_ HB.out GE136.out)) : w.heap.size ≤ gb137)); have n4_ := mkA ((by rw [hg]; exact (below_size (bs1_ HB.out GE136.out)) : w.heap.size ≤ gb137)); have n5_ := mkA ((by rw [hg]; exact Nat.ne_of_lt (blk_lt (g := gb136) (o := .cells #[.int .i64 0, .int .i64 0] 105 (0, 0)) (bl_ BK136.out)) : gb136 ≠ gb137)); have n6_ := mkA ((by rw [hg]; exact Nat.ne_of_gt (blk_lt (g := gb136) (o := .cells #[.int .i64 0, .int .i64 0] 105 (0, 0)) (bl_ BK136.out)) : gb137 ≠ gb136)); clear BK136; clear HB; have BK136 := n0_; have HB := n1_; have BK137 := n2_; have GW137 := n3_; have GE137 := n4_; have NB136_137 := n5_; have NB137_136 := n6_; clear n0_ n1_ n2_ n3_ n4_ n5_ n6_; clear hb hbox hg; have hnb41 := NB136_137.out; have hnc41 := NB137_136.out; have hcz42_0 : w40.cell? ⟨gb136, 0, none⟩ = some (.int .i64 0) := (blk_cell BK136.out 0).trans rfl; have hcz42_1 : w40.cell? ⟨gb136, 1, none⟩ = some (.int .i64 0) := (blk_cell BK136.out 1).trans rfl; have hfz42_0 := blk_frozen BK136.out 0; have hfz42_1 := blk_frozen BK136.out 1; have hcz43_0 : w40.cell? ⟨gb137, 0, none⟩ = some (.int .i64 0) := (blk_cell BK137.out 0).trans rfl; have hcz43_1 : w40.cell? ⟨gb137, 1, none⟩ = some (.int .i64 0) := (blk_cell BK137.out 1).trans rfl; have hfz43_0 := blk_frozen BK137.out 0; have hfz43_1 := blk_frozen BK137.out 1))
           go_ret
           exact ⟨by first | rfl | (simp [errW_none, errW_some] <;> rfl) | (simp [*, errW_none, errW_some] <;> rfl), by repeat (first | (with_reducible first | exact HB.out | apply below_alloc | apply pw_below_drewN | apply below_drew1 | refine below_set ?_ GE136.out | refine below_set ?_ GE137.out) | exact HB.out)⟩
         rw [if_pos c31] at H
         have c31b0 : (t132 == 0) = true := beq_iff_eq.mpr c31
         have c31b1 : (t132 != 0) = false := bne_eq_false_iff_eq.mpr c31
         clear c31
         obtain rfl := Option.some.inj H
         have p130 : 0 ≤ (0 : Int) := (by omega)
         have q130 : 0 < (l0.length : Int) := dt_
         obtain ⟨ad130, A130_1, c130_1, e130, hx130_0, hx130_1, hx130_2, hx130_3, hl130_1, hi130_1⟩ := at0_T53 HR0.out q130
         cases e130
         have qi130 : (0 < l0.length) = True := eq_true (by omega)
         replace hx130_0 := bc_ HB.out hx130_0
         replace hx130_1 := bc_ HB.out hx130_1
         replace hx130_2 := bc_ HB.out hx130_2
         replace hx130_3 := bc_ HB.out hx130_3
         have HR130_1 := mkA hi130_1
         have HC130_1 := mkA hl130_1
         clear hi130_1 hl130_1
         replace p130 := eq_true p130
         replace q130 := eq_true q130
         have p131 : 0 ≤ (0 : Int) := (by omega)
         have q131 : 0 < (l0.length : Int) := dt_
         obtain ⟨ad131, A131_1, c131_1, e131, hx131_0, hx131_1, hx131_2, hx131_3, hl131_1, hi131_1⟩ := at0_T53 HR0.out q131
         obtain rfl : ad130 = ad131 := (by injection e131)
         have qi131 : (0 < l0.length) = True := eq_true (by omega)
         replace hx131_0 := bc_ HB.out hx131_0
         replace hx131_1 := bc_ HB.out hx131_1
         replace hx131_2 := bc_ HB.out hx131_2
         replace hx131_3 := bc_ HB.out hx131_3
         have HR131_1 := mkA hi131_1
         have HC131_1 := mkA hl131_1
         clear hi131_1 hl131_1
         replace p131 := eq_true p131
         replace q131 := eq_true q131
         have ea_ := Option.some.inj (hx130_1.symm.trans hx131_1)
         injection ea_ with ea_ en_ ec_
         subst ea_
         subst ec_
         clear en_
         go_wp2_with (first | ((with_reducible refine gate_callee (f := 93) rfl ?_); refine goesL_ (some 95) rfl rfl Try.func93 (by kernel_rfl) rfl #[.slice A130_1 ((rd_T53 l0 0).f1).length c130_1] rfl (by (try simp only [List.map_toArray, List.map_cons, List.map_nil]); first | done | rfl | (simp only [List.length_drop, List.length_take]; rfl)) ?_; (with_reducible refine (spec_l03Bounds.calls k2 _ _ ((rd_T53 l0 0).f1) t132 t133 t134 t135 _ ?side1 ?side2 A30.out).mono ?_); (case side1 => exact cb_ HR131_1.out HB.out); (case side2 => exact HC131_1.out); rintro e w32 ⟨rfl, hb⟩; refine ⟨_, rfl, ?_⟩; have n0_ := mkA (below_step (bs0_ HB.out) hb); clear HB; have HB := n0_; clear n0_; (try clear hb); (try clear hb2); (try clear hk); (try clear hi)) | ((with_reducible refine gate_dst (N := 4) rfl ?_); (try (refine gate_guard (by rfl) ?_; dsimp only)); refine box_event ?hg (N := 4) ?hd (cs := #[.int .i64 0, .int .i64 0]) (t := 105) ?hr ?_; (case hd => rfl); (case hg => rfl); (case hr => first | (go_simp; done) | (go_simp; rfl)); intro gb136 hg w33 hbox hb; have n0_ := mkA (below_step (bs0_ HB.out) hb); have n1_ := mkA (hbox); have n2_ := mkA ((by rw [hg]; exact (below_size (bs0_ HB.out)) : w.heap.size ≤ gb136)); have n3_ := mkA ((by rw [hg]; exact (below_size (bs0_ HB.out)) : w.heap.size ≤ gb136)); clear HB; have HB := n0_; have BK136 := n1_; have GW136 := n2_; have GE136 := n3_; clear n0_ n1_ n2_ n3_; clear hb hbox hg) | ((with_reducible refine gate_dst (N := 5) rfl ?_); (try (refine gate_guard (by rfl) ?_; dsimp only)); refine box_event ?hg (N := 5) ?hd (cs := #[.int .i64 0, .int .i64 0]) (t := 105) ?hr ?_; (case hd => rfl); (case hg => rfl); (case hr => first | (go_simp; done) | (go_simp; rfl)); intro gb137 hg w34 hbox hb; have n0_ := mkA (blk_below (g := gb136) (o := .cells #[.int .i64 0, .int .i64 0] 105 (0, 0)) (bl_ BK136.out) hb); have n1_ := mkA (below_step (bs1_ HB.out GE136.out) hb); have n2_ := mkA (hbox); have n3_ := mkA ((by rw [hg]; exact (below_size (bs1_ HB.out GE136.out)) : w.heap.size ≤ gb137)); have n4_ := mkA ((by rw [hg]; exact (below_size (bs1_ HB.out GE136.out)) : w.heap.size ≤ gb137)); have n5_ := mkA ((by rw [hg]; exact Nat.ne_of_lt (blk_lt (g := gb136) (o := .cells #[.int .i64 0, .int .i64 0] 105 (0, 0)) (bl_ BK136.out)) : gb136 ≠ gb137)); have n6_ := mkA ((by rw [hg]; exact Nat.ne_of_gt (blk_lt (g := gb136) (o := .cells #[.int .i64 0, .int .i64 0] 105 (0, 0)) (bl_ BK136.out)) : gb137 ≠ gb136)); clear BK136; clear HB; have BK136 := n0_; have HB := n1_; have BK137 := n2_; have GW137 := n3_; have GE137 := n4_; have NB136_137 := n5_; have NB137_136 := n6_; clear n0_ n1_ n2_ n3_ n4_ n5_ n6_; clear hb hbox hg; have hnb35 := NB136_137.out; have hnc35 := NB137_136.out; have hcz36_0 : w34.cell? ⟨gb136, 0, none⟩ = some (.int .i64 0) := (blk_cell BK136.out 0).trans rfl; have hcz36_1 : w34.cell? ⟨gb136, 1, none⟩ = some (.int .i64 0) := (blk_cell BK136.out 1).trans rfl; have hfz36_0 := blk_frozen BK136.out 0; have hfz36_1 := blk_frozen BK136.out 1; have hcz37_0 : w34.cell? ⟨gb137, 0, none⟩ = some (.int .i64 0) := (blk_cell BK137.out 0).trans rfl; have hcz37_1 : w34.cell? ⟨gb137, 1, none⟩ = some (.int .i64 0) := (blk_cell BK137.out 1).trans rfl; have hfz37_0 := blk_frozen BK137.out 0; have hfz37_1 := blk_frozen BK137.out 1))
         go_ret
         exact ⟨by first | rfl | (simp [errW_none, errW_some] <;> rfl) | (simp [*, errW_none, errW_some] <;> rfl), by repeat (first | (with_reducible first | exact HB.out | apply below_alloc | apply pw_below_drewN | apply below_drew1 | refine below_set ?_ GE136.out | refine below_set ?_ GE137.out) | exact HB.out)⟩
       rw [if_pos c11] at H
       have c11b0 : decide (x3_2 < (((rd_T53 l0 0).f1).length : Int)) = true := decide_eq_true c11
       clear c11
       by_cases c12 : 0 ≤ x3_2
       rotate_left
       · rw [if_neg c12] at H
         exact absurd H (by simp)
       rw [if_pos c12] at H
       have c12b0 : decide (0 ≤ x3_2) = true := decide_eq_true c12
       clear c12
       replace H := Option.bind_eq_some_iff.mp H
       obtain ⟨t140, A130, H⟩ := H
       replace H : (if t140 = true then ((spec_l00In.f ((rd_T105 ((rd_T53 l0 0).f1) x3_2).f1) 0 5).bind fun t143 => (if t143 = true then (if x3_2 > 0 then (if 0 ≤ (wrap64 (x3_2 - 1)) then (if (wrap64 (x3_2 - 1)) < (((rd_T53 l0 0).f1).length : Int) then ((spec_l19Before.f ((rd_T105 ((rd_T53 l0 0).f1) (wrap64 (x3_2 - 1))).f0) ((rd_T105 ((rd_T53 l0 0).f1) (wrap64 (x3_2 - 1))).f1) ((rd_T105 ((rd_T53 l0 0).f1) x3_2).f0) ((rd_T105 ((rd_T53 l0 0).f1) x3_2).f1)).bind fun t148 => (if t148 = true then (spec_l19Piece.l0 k2 (wrap64 (x3_2 + 1)) l0) else (some false))) else (none)) else (none)) else (spec_l19Piece.l0 k2 (wrap64 (x3_2 + 1)) l0)) else (some false))) else (some false)) = some r := H
       have A13 := mkA A130
       clear A130
       by_cases c14 : t140 = true
       rotate_left
       · replace c14 := Bool.eq_false_iff.mpr c14
         subst c14
         have H1 : (some false) = some r := by rw [if_neg (show ¬ (false = true) by decide)] at H; exact H
         clear H
         have H := H1
         clear H1
         obtain rfl := Option.some.inj H
         have p130 : 0 ≤ (0 : Int) := (by omega)
         have q130 : 0 < (l0.length : Int) := dt_
         obtain ⟨ad130, A130_1, c130_1, e130, hx130_0, hx130_1, hx130_2, hx130_3, hl130_1, hi130_1⟩ := at0_T53 HR0.out q130
         cases e130
         have qi130 : (0 < l0.length) = True := eq_true (by omega)
         replace hx130_0 := bc_ HB.out hx130_0
         replace hx130_1 := bc_ HB.out hx130_1
         replace hx130_2 := bc_ HB.out hx130_2
         replace hx130_3 := bc_ HB.out hx130_3
         have HR130_1 := mkA hi130_1
         have HC130_1 := mkA hl130_1
         clear hi130_1 hl130_1
         replace p130 := eq_true p130
         replace q130 := eq_true q130
         try go_wp2
         have n0_ := mkA (below_drew1 HB.out)
         clear HB
         have HB := n0_
         clear n0_
         have p138 : 0 ≤ (0 : Int) := (by omega)
         have q138 : 0 < (l0.length : Int) := dt_
         obtain ⟨ad138, A138_1, c138_1, e138, hx138_0, hx138_1, hx138_2, hx138_3, hl138_1, hi138_1⟩ := at0_T53 HR0.out q138
         have hw138_3 := hx138_3
         have hw138_2 := hx138_2
         have hw138_1 := hx138_1
         have hw138_0 := hx138_0
         obtain rfl : ad130 = ad138 := (by injection e138)
         have qi138 : (0 < l0.length) = True := eq_true (by omega)
         replace hx138_0 := bc_ HB.out hx138_0
         replace hx138_1 := bc_ HB.out hx138_1
         replace hx138_2 := bc_ HB.out hx138_2
         replace hx138_3 := bc_ HB.out hx138_3
         have HR138_1 := mkA hi138_1
         have HC138_1 := mkA hl138_1
         clear hi138_1 hl138_1
         replace p138 := eq_true p138
         replace q138 := eq_true q138
         have p139 : 0 ≤ (x3_2 : Int) := dt_
         have q139 : x3_2 < (((rd_T53 l0 0).f1).length : Int) := dt_
         obtain ⟨ad139, e139, hx139_0, hx139_1⟩ := at_T105 HR138_1.out x3_2 p139 q139
         have hw139_1 := hx139_1
         have hw139_0 := hx139_0
         cases e139
         replace hx139_0 := bc_ HB.out hx139_0
         replace hx139_1 := bc_ HB.out hx139_1
         replace p139 := eq_true p139
         replace q139 := eq_true q139
         refine start_ (n := 45) (S := fun w' => w'.cell? ad130 = some (.string ((rd_T53 l0 0).f0)) ∧ w'.cell? ⟨ad130.block, ad130.off + 1, none⟩ = some (.slice (some ad139) ((rd_T53 l0 0).f1).length c138_1) ∧ w'.cell? ⟨ad130.block, ad130.off + 2, none⟩ = some (.int .i64 ((rd_T53 l0 0).f2)) ∧ w'.cell? ⟨ad130.block, ad130.off + 3, none⟩ = some (.bool ((rd_T53 l0 0).f3)) ∧ w'.cell? (ad139.add ((x3_2).toNat * 2)) = some (.int .i64 ((rd_T105 ((rd_T53 l0 0).f1) x3_2).f0)) ∧ w'.cell? ⟨(ad139.add ((x3_2).toNat * 2)).block, (ad139.add ((x3_2).toNat * 2)).off + 1, none⟩ = some (.int .i64 ((rd_T105 ((rd_T53 l0 0).f1) x3_2).f1))) (ds := []) spec_l19Piece.d0 (by kernel_rfl) rfl rfl ⟨(bc_ HB.out hw138_0 :), (bc_ HB.out hw138_1 :), (bc_ HB.out hw138_2 :), (bc_ HB.out hw138_3 :), (bc_ HB.out hw139_0 :), (bc_ HB.out hw139_1 :)⟩ (fun hHeld => ?_); refine with_tabW spec_l19Piece.tab6 spec_l19Piece.bits6 (fun HT_ HW_ => ?_)
         generalize wr.drew = w29 at HB HR138_1 hx138_0 hx138_1 hx138_2 hx138_3 hx139_0 hx139_1 hHeld ⊢
         refine p1_ HT_.out 0 45 spec_l19Piece.d1 ?_
         refine p1_ HT_.out 1 46 spec_l19Piece.d2 ?_
         refine p1_ HT_.out 2 47 spec_l19Piece.d3 ?_
         refine p1_ HT_.out 4 49 spec_l19Piece.d4 ?_
         refine take_ (i := 3) (N := some 48) (v := ?_) (a' := ?_) spec_l19Piece.d5 rfl rfl (take_ofW HT_.out HW_.out (by kernel_rfl)) (fun _ _ _ h => h) (Or.inl ⟨by rfl, ?_⟩) hHeld ?_ ?_
         rotate_left
         · rintro w' ⟨s0, s1, s2, s3, s4, s5⟩
           go_simp
           with_reducible rfl
         rotate_left
         · simp only [Act.put, sA, sB, sC, i64_w, i32_w]
           rfl
         refine p1_ HT_.out 5 50 spec_l19Piece.d6 ?_
         refine p1_ HT_.out 6 51 spec_l19Piece.d7 ?_
         refine take_ (i := 7) (N := some 52) (v := ?_) (a' := ?_) spec_l19Piece.d8 rfl rfl (take_ofW HT_.out HW_.out (by kernel_rfl)) (fun _ _ _ h => h) (Or.inl ⟨by rfl, ?_⟩) hHeld ?_ ?_
         rotate_left
         · rintro w' ⟨s0, s1, s2, s3, s4, s5⟩
           go_simp
           with_reducible rfl
         rotate_left
         · simp only [Act.put, sA, sB, sC, i64_w, i32_w]
           rfl
         refine one_ (i := 8) (N := some 53) spec_l19Piece.d9 rfl rfl (one_of HT_.out (by kernel_rfl)) (by decide) (fun K hK => ?_)
         refine goes_ Try.func60 (by kernel_rfl) rfl #[.int .i64 ((rd_T105 ((rd_T53 l0 0).f1) x3_2).f0), .int .i64 0, .int .i64 5] (by rfl) rfl rfl (by (try simp only [List.map_toArray, List.map_cons, List.map_nil]); first | done | rfl | (simp only [List.length_drop, List.length_take]; rfl)) ?_
         with_reducible refine (spec_l00In.calls ((rd_T105 ((rd_T53 l0 0).f1) x3_2).f0) 0 5 false _ A13.out).mono ?_
         rintro e w' ⟨rfl, ⟨nd, rfl⟩⟩
         refine ⟨_, rfl, ?_⟩
         refine hK.out _ _ ⟨(bc_ HB.out hw138_0 :), (bc_ HB.out hw138_1 :), (bc_ HB.out hw138_2 :), (bc_ HB.out hw138_3 :), (bc_ HB.out hw139_0 :), (bc_ HB.out hw139_1 :)⟩ (fun hHeld => ?_)
         clear hK K
         refine norm_ (a' := ?_) ?_ ?_
         rotate_left
         · show Act.put _ (some 53) _ = _
           simp only [Act.put, sA, sB, sC, i64_w, i32_w]
           rfl
         refine p1_ HT_.out 9 54 spec_l19Piece.d10 ?_
         refine p1_ HT_.out 10 55 spec_l19Piece.d11 ?_
         refine p0_ HT_.out 11 56 spec_l19Piece.d12 ?_
         refine p0_ HT_.out 12 57 spec_l19Piece.d13 ?_
         refine p0_ HT_.out 13 58 spec_l19Piece.d14 ?_
         refine p0_ HT_.out 14 59 spec_l19Piece.d55 ?_
         refine p0_ HT_.out 15 60 spec_l19Piece.d16 ?_
         refine p0_ HT_.out 16 61 spec_l19Piece.d17 ?_
         refine p0_ HT_.out 17 62 spec_l19Piece.d18 ?_
         refine p0_ HT_.out 18 63 spec_l19Piece.d19 ?_
         refine p0_ HT_.out 19 64 spec_l19Piece.d20 ?_
         refine p0_ HT_.out 20 65 spec_l19Piece.d21 ?_
         refine p1_ HT_.out 21 66 spec_l19Piece.d22 ?_
         refine p1_ HT_.out 22 67 spec_l19Piece.d23 ?_
         refine p0_ HT_.out 23 68 spec_l19Piece.d24 ?_
         refine p0_ HT_.out 24 69 spec_l19Piece.d25 ?_
         refine p0_ HT_.out 25 70 spec_l19Piece.d26 ?_
         refine p0_ HT_.out 26 71 spec_l19Piece.d27 ?_
         refine p0_ HT_.out 27 72 spec_l19Piece.d28 ?_
         refine p0_ HT_.out 28 73 spec_l19Piece.d29 ?_
         refine p0_ HT_.out 29 74 spec_l19Piece.d46 ?_
         refine p0_ HT_.out 30 75 spec_l19Piece.d47 ?_
         refine p0_ HT_.out 31 76 spec_l19Piece.d48 ?_
         refine p0_ HT_.out 32 77 spec_l19Piece.d49 ?_
         refine p0_ HT_.out 33 78 spec_l19Piece.d50 ?_
         refine p0_ HT_.out 34 79 spec_l19Piece.d51 ?_
         refine p0_ HT_.out 35 80 spec_l19Piece.d52 ?_
         refine p0_ HT_.out 36 81 spec_l19Piece.d53 ?_
         refine p0_ HT_.out 37 82 spec_l19Piece.d54 ?_
         refine p0_ HT_.out 38 83 spec_l19Piece.d39 ?_
         refine p0_ HT_.out 39 84 spec_l19Piece.d40 ?_
         refine p0_ HT_.out 40 85 spec_l19Piece.d41 ?_
         refine p0_ HT_.out 41 86 spec_l19Piece.d42 ?_
         refine p0_ HT_.out 42 87 spec_l19Piece.d43 ?_
         refine p0_ HT_.out 43 88 spec_l19Piece.d44 ?_
         refine p1_ HT_.out 44 89 spec_l19Piece.d45 ?_
         refine done_ (done_of HT_.out (by kernel_rfl)) ?_
         try go_wp2
         go_ret
         exact ⟨by first | rfl | (simp [errW_none, errW_some] <;> rfl) | (simp [*, errW_none, errW_some] <;> rfl), by repeat (first | (with_reducible first | exact HB.out | apply below_alloc | apply pw_below_drewN | apply below_drew1) | exact HB.out)⟩
       subst c14
       have H1 : ((spec_l00In.f ((rd_T105 ((rd_T53 l0 0).f1) x3_2).f1) 0 5).bind fun t143 => (if t143 = true then (if x3_2 > 0 then (if 0 ≤ (wrap64 (x3_2 - 1)) then (if (wrap64 (x3_2 - 1)) < (((rd_T53 l0 0).f1).length : Int) then ((spec_l19Before.f ((rd_T105 ((rd_T53 l0 0).f1) (wrap64 (x3_2 - 1))).f0) ((rd_T105 ((rd_T53 l0 0).f1) (wrap64 (x3_2 - 1))).f1) ((rd_T105 ((rd_T53 l0 0).f1) x3_2).f0) ((rd_T105 ((rd_T53 l0 0).f1) x3_2).f1)).bind fun t148 => (if t148 = true then (spec_l19Piece.l0 k2 (wrap64 (x3_2 + 1)) l0) else (some false))) else (none)) else (none)) else (spec_l19Piece.l0 k2 (wrap64 (x3_2 + 1)) l0)) else (some false))) = some r := by rw [if_pos rfl] at H; exact H
       clear H
       have H := H1
       clear H1
       replace H := Option.bind_eq_some_iff.mp H
       obtain ⟨t143, A150, H⟩ := H
       replace H : (if t143 = true then (if x3_2 > 0 then (if 0 ≤ (wrap64 (x3_2 - 1)) then (if (wrap64 (x3_2 - 1)) < (((rd_T53 l0 0).f1).length : Int) then ((spec_l19Before.f ((rd_T105 ((rd_T53 l0 0).f1) (wrap64 (x3_2 - 1))).f0) ((rd_T105 ((rd_T53 l0 0).f1) (wrap64 (x3_2 - 1))).f1) ((rd_T105 ((rd_T53 l0 0).f1) x3_2).f0) ((rd_T105 ((rd_T53 l0 0).f1) x3_2).f1)).bind fun t148 => (if t148 = true then (spec_l19Piece.l0 k2 (wrap64 (x3_2 + 1)) l0) else (some false))) else (none)) else (none)) else (spec_l19Piece.l0 k2 (wrap64 (x3_2 + 1)) l0)) else (some false)) = some r := H
       have A15 := mkA A150
       clear A150
       by_cases c16 : t143 = true
       rotate_left
       · replace c16 := Bool.eq_false_iff.mpr c16
         subst c16
         have H1 : (some false) = some r := by rw [if_neg (show ¬ (false = true) by decide)] at H; exact H
         clear H
         have H := H1
         clear H1
         obtain rfl := Option.some.inj H
         have p130 : 0 ≤ (0 : Int) := (by omega)
         have q130 : 0 < (l0.length : Int) := dt_
         obtain ⟨ad130, A130_1, c130_1, e130, hx130_0, hx130_1, hx130_2, hx130_3, hl130_1, hi130_1⟩ := at0_T53 HR0.out q130
         cases e130
         have qi130 : (0 < l0.length) = True := eq_true (by omega)
         replace hx130_0 := bc_ HB.out hx130_0
         replace hx130_1 := bc_ HB.out hx130_1
         replace hx130_2 := bc_ HB.out hx130_2
         replace hx130_3 := bc_ HB.out hx130_3
         have HR130_1 := mkA hi130_1
         have HC130_1 := mkA hl130_1
         clear hi130_1 hl130_1
         replace p130 := eq_true p130
         replace q130 := eq_true q130
         try go_wp2
         have n0_ := mkA (below_drew1 HB.out)
         clear HB
         have HB := n0_
         clear n0_
         have p138 : 0 ≤ (0 : Int) := (by omega)
         have q138 : 0 < (l0.length : Int) := dt_
         obtain ⟨ad138, A138_1, c138_1, e138, hx138_0, hx138_1, hx138_2, hx138_3, hl138_1, hi138_1⟩ := at0_T53 HR0.out q138
         have hw138_3 := hx138_3
         have hw138_2 := hx138_2
         have hw138_1 := hx138_1
         have hw138_0 := hx138_0
         obtain rfl : ad130 = ad138 := (by injection e138)
         have qi138 : (0 < l0.length) = True := eq_true (by omega)
         replace hx138_0 := bc_ HB.out hx138_0
         replace hx138_1 := bc_ HB.out hx138_1
         replace hx138_2 := bc_ HB.out hx138_2
         replace hx138_3 := bc_ HB.out hx138_3
         have HR138_1 := mkA hi138_1
         have HC138_1 := mkA hl138_1
         clear hi138_1 hl138_1
         replace p138 := eq_true p138
         replace q138 := eq_true q138
         have p139 : 0 ≤ (x3_2 : Int) := dt_
         have q139 : x3_2 < (((rd_T53 l0 0).f1).length : Int) := dt_
         obtain ⟨ad139, e139, hx139_0, hx139_1⟩ := at_T105 HR138_1.out x3_2 p139 q139
         have hw139_1 := hx139_1
         have hw139_0 := hx139_0
         cases e139
         replace hx139_0 := bc_ HB.out hx139_0
         replace hx139_1 := bc_ HB.out hx139_1
         replace p139 := eq_true p139
         replace q139 := eq_true q139
         have p141 : 0 ≤ (0 : Int) := (by omega)
         have q141 : 0 < (l0.length : Int) := dt_
         obtain ⟨ad141, A141_1, c141_1, e141, hx141_0, hx141_1, hx141_2, hx141_3, hl141_1, hi141_1⟩ := at0_T53 HR0.out q141
         have hw141_3 := hx141_3
         have hw141_2 := hx141_2
         have hw141_1 := hx141_1
         have hw141_0 := hx141_0
         obtain rfl : ad130 = ad141 := (by injection e141)
         have qi141 : (0 < l0.length) = True := eq_true (by omega)
         replace hx141_0 := bc_ HB.out hx141_0
         replace hx141_1 := bc_ HB.out hx141_1
         replace hx141_2 := bc_ HB.out hx141_2
         replace hx141_3 := bc_ HB.out hx141_3
         have HR141_1 := mkA hi141_1
         have HC141_1 := mkA hl141_1
         clear hi141_1 hl141_1
         replace p141 := eq_true p141
         replace q141 := eq_true q141
         have ea_ := Option.some.inj (hx138_1.symm.trans hx141_1)
         injection ea_ with ea_ en_ ec_
         subst ea_
         subst ec_
         clear en_
         have p142 : 0 ≤ (x3_2 : Int) := dt_
         have q142 : x3_2 < (((rd_T53 l0 0).f1).length : Int) := dt_
         obtain ⟨ad142, e142, hx142_0, hx142_1⟩ := at_T105 HR141_1.out x3_2 p142 q142
         have hw142_1 := hx142_1
         have hw142_0 := hx142_0
         obtain rfl : ad139 = ad142 := (by injection e142)
         replace hx142_0 := bc_ HB.out hx142_0
         replace hx142_1 := bc_ HB.out hx142_1
         replace p142 := eq_true p142
         replace q142 := eq_true q142
         refine start_ (n := 45) (S := fun w' => w'.cell? ad130 = some (.string ((rd_T53 l0 0).f0)) ∧ w'.cell? ⟨ad130.block, ad130.off + 1, none⟩ = some (.slice (some ad139) ((rd_T53 l0 0).f1).length c138_1) ∧ w'.cell? ⟨ad130.block, ad130.off + 2, none⟩ = some (.int .i64 ((rd_T53 l0 0).f2)) ∧ w'.cell? ⟨ad130.block, ad130.off + 3, none⟩ = some (.bool ((rd_T53 l0 0).f3)) ∧ w'.cell? (ad139.add ((x3_2).toNat * 2)) = some (.int .i64 ((rd_T105 ((rd_T53 l0 0).f1) x3_2).f0)) ∧ w'.cell? ⟨(ad139.add ((x3_2).toNat * 2)).block, (ad139.add ((x3_2).toNat * 2)).off + 1, none⟩ = some (.int .i64 ((rd_T105 ((rd_T53 l0 0).f1) x3_2).f1)) ∧ w'.cell? ad130 = some (.string ((rd_T53 l0 0).f0)) ∧ w'.cell? ⟨ad130.block, ad130.off + 1, none⟩ = some (.slice (some ad139) ((rd_T53 l0 0).f1).length c138_1) ∧ w'.cell? ⟨ad130.block, ad130.off + 2, none⟩ = some (.int .i64 ((rd_T53 l0 0).f2)) ∧ w'.cell? ⟨ad130.block, ad130.off + 3, none⟩ = some (.bool ((rd_T53 l0 0).f3)) ∧ w'.cell? (ad139.add ((x3_2).toNat * 2)) = some (.int .i64 ((rd_T105 ((rd_T53 l0 0).f1) x3_2).f0)) ∧ w'.cell? ⟨(ad139.add ((x3_2).toNat * 2)).block, (ad139.add ((x3_2).toNat * 2)).off + 1, none⟩ = some (.int .i64 ((rd_T105 ((rd_T53 l0 0).f1) x3_2).f1))) (ds := []) spec_l19Piece.d0 (by kernel_rfl) rfl rfl ⟨(bc_ HB.out hw138_0 :), (bc_ HB.out hw138_1 :), (bc_ HB.out hw138_2 :), (bc_ HB.out hw138_3 :), (bc_ HB.out hw139_0 :), (bc_ HB.out hw139_1 :), (bc_ HB.out hw141_0 :), (bc_ HB.out hw141_1 :), (bc_ HB.out hw141_2 :), (bc_ HB.out hw141_3 :), (bc_ HB.out hw142_0 :), (bc_ HB.out hw142_1 :)⟩ (fun hHeld => ?_); refine with_tabW spec_l19Piece.tab6 spec_l19Piece.bits6 (fun HT_ HW_ => ?_)
         generalize wr.drew = w28 at HB HR138_1 HR141_1 hx138_0 hx138_1 hx138_2 hx138_3 hx139_0 hx139_1 hx141_0 hx141_1 hx141_2 hx141_3 hx142_0 hx142_1 hHeld ⊢
         refine p1_ HT_.out 0 45 spec_l19Piece.d1 ?_
         refine p1_ HT_.out 1 46 spec_l19Piece.d2 ?_
         refine p1_ HT_.out 2 47 spec_l19Piece.d3 ?_
         refine p1_ HT_.out 4 49 spec_l19Piece.d4 ?_
         refine take_ (i := 3) (N := some 48) (v := ?_) (a' := ?_) spec_l19Piece.d5 rfl rfl (take_ofW HT_.out HW_.out (by kernel_rfl)) (fun _ _ _ h => h) (Or.inl ⟨by rfl, ?_⟩) hHeld ?_ ?_
         rotate_left
         · rintro w' ⟨s0, s1, s2, s3, s4, s5, s6, s7, s8, s9, s10, s11⟩
           go_simp
           with_reducible rfl
         rotate_left
         · simp only [Act.put, sA, sB, sC, i64_w, i32_w]
           rfl
         refine p1_ HT_.out 5 50 spec_l19Piece.d6 ?_
         refine p1_ HT_.out 6 51 spec_l19Piece.d7 ?_
         refine take_ (i := 7) (N := some 52) (v := ?_) (a' := ?_) spec_l19Piece.d8 rfl rfl (take_ofW HT_.out HW_.out (by kernel_rfl)) (fun _ _ _ h => h) (Or.inl ⟨by rfl, ?_⟩) hHeld ?_ ?_
         rotate_left
         · rintro w' ⟨s0, s1, s2, s3, s4, s5, s6, s7, s8, s9, s10, s11⟩
           go_simp
           with_reducible rfl
         rotate_left
         · simp only [Act.put, sA, sB, sC, i64_w, i32_w]
           rfl
         refine one_ (i := 8) (N := some 53) spec_l19Piece.d9 rfl rfl (one_of HT_.out (by kernel_rfl)) (by decide) (fun K hK => ?_)
         refine goes_ Try.func60 (by kernel_rfl) rfl #[.int .i64 ((rd_T105 ((rd_T53 l0 0).f1) x3_2).f0), .int .i64 0, .int .i64 5] (by rfl) rfl rfl (by (try simp only [List.map_toArray, List.map_cons, List.map_nil]); first | done | rfl | (simp only [List.length_drop, List.length_take]; rfl)) ?_
         with_reducible refine (spec_l00In.calls ((rd_T105 ((rd_T53 l0 0).f1) x3_2).f0) 0 5 true _ A13.out).mono ?_
         rintro e w' ⟨rfl, ⟨nd, rfl⟩⟩
         refine ⟨_, rfl, ?_⟩
         refine hK.out _ _ ⟨(bc_ HB.out hw138_0 :), (bc_ HB.out hw138_1 :), (bc_ HB.out hw138_2 :), (bc_ HB.out hw138_3 :), (bc_ HB.out hw139_0 :), (bc_ HB.out hw139_1 :), (bc_ HB.out hw141_0 :), (bc_ HB.out hw141_1 :), (bc_ HB.out hw141_2 :), (bc_ HB.out hw141_3 :), (bc_ HB.out hw142_0 :), (bc_ HB.out hw142_1 :)⟩ (fun hHeld => ?_)
         clear hK K
         refine norm_ (a' := ?_) ?_ ?_
         rotate_left
         · show Act.put _ (some 53) _ = _
           simp only [Act.put, sA, sB, sC, i64_w, i32_w]
           rfl
         refine p1_ HT_.out 9 54 spec_l19Piece.d10 ?_
         refine p1_ HT_.out 10 55 spec_l19Piece.d11 ?_
         refine p1_ HT_.out 11 56 spec_l19Piece.d12 ?_
         refine p1_ HT_.out 12 57 spec_l19Piece.d13 ?_
         refine p1_ HT_.out 13 58 spec_l19Piece.d14 ?_
         refine p1_ HT_.out 15 60 spec_l19Piece.d15 ?_
         refine take_ (i := 14) (N := some 59) (v := ?_) (a' := ?_) spec_l19Piece.d16 rfl rfl (take_ofW HT_.out HW_.out (by kernel_rfl)) (fun _ _ _ h => h) (Or.inl ⟨by rfl, ?_⟩) hHeld ?_ ?_
         rotate_left
         · rintro w' ⟨s0, s1, s2, s3, s4, s5, s6, s7, s8, s9, s10, s11⟩
           go_simp
           with_reducible rfl
         rotate_left
         · simp only [Act.put, sA, sB, sC, i64_w, i32_w]
           rfl
         refine p1_ HT_.out 16 61 spec_l19Piece.d17 ?_
         refine p1_ HT_.out 17 62 spec_l19Piece.d18 ?_
         refine take_ (i := 18) (N := some 63) (v := ?_) (a' := ?_) spec_l19Piece.d19 rfl rfl (take_ofW HT_.out HW_.out (by kernel_rfl)) (fun _ _ _ h => h) (Or.inl ⟨by rfl, ?_⟩) hHeld ?_ ?_
         rotate_left
         · rintro w' ⟨s0, s1, s2, s3, s4, s5, s6, s7, s8, s9, s10, s11⟩
           go_simp
           with_reducible rfl
         rotate_left
         · simp only [Act.put, sA, sB, sC, i64_w, i32_w]
           rfl
         refine one_ (i := 19) (N := some 64) spec_l19Piece.d20 rfl rfl (one_of HT_.out (by kernel_rfl)) (by decide) (fun K hK => ?_)
         refine goes_ Try.func60 (by kernel_rfl) rfl #[.int .i64 ((rd_T105 ((rd_T53 l0 0).f1) x3_2).f1), .int .i64 0, .int .i64 5] (by rfl) rfl rfl (by (try simp only [List.map_toArray, List.map_cons, List.map_nil]); first | done | rfl | (simp only [List.length_drop, List.length_take]; rfl)) ?_
         with_reducible refine (spec_l00In.calls ((rd_T105 ((rd_T53 l0 0).f1) x3_2).f1) 0 5 false _ A15.out).mono ?_
         rintro e w' ⟨rfl, ⟨nd, rfl⟩⟩
         refine ⟨_, rfl, ?_⟩
         refine hK.out _ _ ⟨(bc_ HB.out hw138_0 :), (bc_ HB.out hw138_1 :), (bc_ HB.out hw138_2 :), (bc_ HB.out hw138_3 :), (bc_ HB.out hw139_0 :), (bc_ HB.out hw139_1 :), (bc_ HB.out hw141_0 :), (bc_ HB.out hw141_1 :), (bc_ HB.out hw141_2 :), (bc_ HB.out hw141_3 :), (bc_ HB.out hw142_0 :), (bc_ HB.out hw142_1 :)⟩ (fun hHeld => ?_)
         clear hK K
         refine norm_ (a' := ?_) ?_ ?_
         rotate_left
         · show Act.put _ (some 64) _ = _
           simp only [Act.put, sA, sB, sC, i64_w, i32_w]
           rfl
         refine p1_ HT_.out 20 65 spec_l19Piece.d21 ?_
         refine p1_ HT_.out 21 66 spec_l19Piece.d22 ?_
         refine p1_ HT_.out 22 67 spec_l19Piece.d23 ?_
         refine p0_ HT_.out 23 68 spec_l19Piece.d24 ?_
         refine p0_ HT_.out 24 69 spec_l19Piece.d25 ?_
         refine p0_ HT_.out 25 70 spec_l19Piece.d26 ?_
         refine p0_ HT_.out 26 71 spec_l19Piece.d27 ?_
         refine p0_ HT_.out 27 72 spec_l19Piece.d28 ?_
         refine p0_ HT_.out 28 73 spec_l19Piece.d29 ?_
         refine p0_ HT_.out 29 74 spec_l19Piece.d46 ?_
         refine p0_ HT_.out 30 75 spec_l19Piece.d47 ?_
         refine p0_ HT_.out 31 76 spec_l19Piece.d48 ?_
         refine p0_ HT_.out 32 77 spec_l19Piece.d49 ?_
         refine p0_ HT_.out 33 78 spec_l19Piece.d50 ?_
         refine p0_ HT_.out 34 79 spec_l19Piece.d51 ?_
         refine p0_ HT_.out 35 80 spec_l19Piece.d52 ?_
         refine p0_ HT_.out 36 81 spec_l19Piece.d53 ?_
         refine p0_ HT_.out 37 82 spec_l19Piece.d54 ?_
         refine p0_ HT_.out 38 83 spec_l19Piece.d39 ?_
         refine p0_ HT_.out 39 84 spec_l19Piece.d40 ?_
         refine p0_ HT_.out 40 85 spec_l19Piece.d41 ?_
         refine p0_ HT_.out 41 86 spec_l19Piece.d42 ?_
         refine p0_ HT_.out 42 87 spec_l19Piece.d43 ?_
         refine p0_ HT_.out 43 88 spec_l19Piece.d44 ?_
         refine p1_ HT_.out 44 89 spec_l19Piece.d45 ?_
         refine done_ (done_of HT_.out (by kernel_rfl)) ?_
         try go_wp2
         go_ret
         exact ⟨by first | rfl | (simp [errW_none, errW_some] <;> rfl) | (simp [*, errW_none, errW_some] <;> rfl), by repeat (first | (with_reducible first | exact HB.out | apply below_alloc | apply pw_below_drewN | apply below_drew1) | exact HB.out)⟩
       subst c16
       have H1 : (if x3_2 > 0 then (if 0 ≤ (wrap64 (x3_2 - 1)) then (if (wrap64 (x3_2 - 1)) < (((rd_T53 l0 0).f1).length : Int) then ((spec_l19Before.f ((rd_T105 ((rd_T53 l0 0).f1) (wrap64 (x3_2 - 1))).f0) ((rd_T105 ((rd_T53 l0 0).f1) (wrap64 (x3_2 - 1))).f1) ((rd_T105 ((rd_T53 l0 0).f1) x3_2).f0) ((rd_T105 ((rd_T53 l0 0).f1) x3_2).f1)).bind fun t148 => (if t148 = true then (spec_l19Piece.l0 k2 (wrap64 (x3_2 + 1)) l0) else (some false))) else (none)) else (none)) else (spec_l19Piece.l0 k2 (wrap64 (x3_2 + 1)) l0)) = some r := by rw [if_pos rfl] at H; exact H
       clear H
       have H := H1
       clear H1
       by_cases c17 : x3_2 > 0
       rotate_left
       · rw [if_neg c17] at H
         have c17b0 : decide (0 < x3_2) = false := decide_eq_false c17
         clear c17
         have H' := mkA H
         clear H
         have p130 : 0 ≤ (0 : Int) := (by omega)
         have q130 : 0 < (l0.length : Int) := dt_
         obtain ⟨ad130, A130_1, c130_1, e130, hx130_0, hx130_1, hx130_2, hx130_3, hl130_1, hi130_1⟩ := at0_T53 HR0.out q130
         cases e130
         have qi130 : (0 < l0.length) = True := eq_true (by omega)
         replace hx130_0 := bc_ HB.out hx130_0
         replace hx130_1 := bc_ HB.out hx130_1
         replace hx130_2 := bc_ HB.out hx130_2
         replace hx130_3 := bc_ HB.out hx130_3
         have HR130_1 := mkA hi130_1
         have HC130_1 := mkA hl130_1
         clear hi130_1 hl130_1
         replace p130 := eq_true p130
         replace q130 := eq_true q130
         try go_wp2
         have n0_ := mkA (below_drew1 HB.out)
         clear HB
         have HB := n0_
         clear n0_
         have p138 : 0 ≤ (0 : Int) := (by omega)
         have q138 : 0 < (l0.length : Int) := dt_
         obtain ⟨ad138, A138_1, c138_1, e138, hx138_0, hx138_1, hx138_2, hx138_3, hl138_1, hi138_1⟩ := at0_T53 HR0.out q138
         have hw138_3 := hx138_3
         have hw138_2 := hx138_2
         have hw138_1 := hx138_1
         have hw138_0 := hx138_0
         obtain rfl : ad130 = ad138 := (by injection e138)
         have qi138 : (0 < l0.length) = True := eq_true (by omega)
         replace hx138_0 := bc_ HB.out hx138_0
         replace hx138_1 := bc_ HB.out hx138_1
         replace hx138_2 := bc_ HB.out hx138_2
         replace hx138_3 := bc_ HB.out hx138_3
         have HR138_1 := mkA hi138_1
         have HC138_1 := mkA hl138_1
         clear hi138_1 hl138_1
         replace p138 := eq_true p138
         replace q138 := eq_true q138
         have p139 : 0 ≤ (x3_2 : Int) := dt_
         have q139 : x3_2 < (((rd_T53 l0 0).f1).length : Int) := dt_
         obtain ⟨ad139, e139, hx139_0, hx139_1⟩ := at_T105 HR138_1.out x3_2 p139 q139
         have hw139_1 := hx139_1
         have hw139_0 := hx139_0
         cases e139
         replace hx139_0 := bc_ HB.out hx139_0
         replace hx139_1 := bc_ HB.out hx139_1
         replace p139 := eq_true p139
         replace q139 := eq_true q139
         have p141 : 0 ≤ (0 : Int) := (by omega)
         have q141 : 0 < (l0.length : Int) := dt_
         obtain ⟨ad141, A141_1, c141_1, e141, hx141_0, hx141_1, hx141_2, hx141_3, hl141_1, hi141_1⟩ := at0_T53 HR0.out q141
         have hw141_3 := hx141_3
         have hw141_2 := hx141_2
         have hw141_1 := hx141_1
         have hw141_0 := hx141_0
         obtain rfl : ad130 = ad141 := (by injection e141)
         have qi141 : (0 < l0.length) = True := eq_true (by omega)
         replace hx141_0 := bc_ HB.out hx141_0
         replace hx141_1 := bc_ HB.out hx141_1
         replace hx141_2 := bc_ HB.out hx141_2
         replace hx141_3 := bc_ HB.out hx141_3
         have HR141_1 := mkA hi141_1
         have HC141_1 := mkA hl141_1
         clear hi141_1 hl141_1
         replace p141 := eq_true p141
         replace q141 := eq_true q141
         have ea_ := Option.some.inj (hx138_1.symm.trans hx141_1)
         injection ea_ with ea_ en_ ec_
         subst ea_
         subst ec_
         clear en_
         have p142 : 0 ≤ (x3_2 : Int) := dt_
         have q142 : x3_2 < (((rd_T53 l0 0).f1).length : Int) := dt_
         obtain ⟨ad142, e142, hx142_0, hx142_1⟩ := at_T105 HR141_1.out x3_2 p142 q142
         have hw142_1 := hx142_1
         have hw142_0 := hx142_0
         obtain rfl : ad139 = ad142 := (by injection e142)
         replace hx142_0 := bc_ HB.out hx142_0
         replace hx142_1 := bc_ HB.out hx142_1
         replace p142 := eq_true p142
         replace q142 := eq_true q142
         refine start_ (n := 45) (S := fun w' => w'.cell? ad130 = some (.string ((rd_T53 l0 0).f0)) ∧ w'.cell? ⟨ad130.block, ad130.off + 1, none⟩ = some (.slice (some ad139) ((rd_T53 l0 0).f1).length c138_1) ∧ w'.cell? ⟨ad130.block, ad130.off + 2, none⟩ = some (.int .i64 ((rd_T53 l0 0).f2)) ∧ w'.cell? ⟨ad130.block, ad130.off + 3, none⟩ = some (.bool ((rd_T53 l0 0).f3)) ∧ w'.cell? (ad139.add ((x3_2).toNat * 2)) = some (.int .i64 ((rd_T105 ((rd_T53 l0 0).f1) x3_2).f0)) ∧ w'.cell? ⟨(ad139.add ((x3_2).toNat * 2)).block, (ad139.add ((x3_2).toNat * 2)).off + 1, none⟩ = some (.int .i64 ((rd_T105 ((rd_T53 l0 0).f1) x3_2).f1)) ∧ w'.cell? ad130 = some (.string ((rd_T53 l0 0).f0)) ∧ w'.cell? ⟨ad130.block, ad130.off + 1, none⟩ = some (.slice (some ad139) ((rd_T53 l0 0).f1).length c138_1) ∧ w'.cell? ⟨ad130.block, ad130.off + 2, none⟩ = some (.int .i64 ((rd_T53 l0 0).f2)) ∧ w'.cell? ⟨ad130.block, ad130.off + 3, none⟩ = some (.bool ((rd_T53 l0 0).f3)) ∧ w'.cell? (ad139.add ((x3_2).toNat * 2)) = some (.int .i64 ((rd_T105 ((rd_T53 l0 0).f1) x3_2).f0)) ∧ w'.cell? ⟨(ad139.add ((x3_2).toNat * 2)).block, (ad139.add ((x3_2).toNat * 2)).off + 1, none⟩ = some (.int .i64 ((rd_T105 ((rd_T53 l0 0).f1) x3_2).f1))) (ds := []) spec_l19Piece.d0 (by kernel_rfl) rfl rfl ⟨(bc_ HB.out hw138_0 :), (bc_ HB.out hw138_1 :), (bc_ HB.out hw138_2 :), (bc_ HB.out hw138_3 :), (bc_ HB.out hw139_0 :), (bc_ HB.out hw139_1 :), (bc_ HB.out hw141_0 :), (bc_ HB.out hw141_1 :), (bc_ HB.out hw141_2 :), (bc_ HB.out hw141_3 :), (bc_ HB.out hw142_0 :), (bc_ HB.out hw142_1 :)⟩ (fun hHeld => ?_); refine with_tabW spec_l19Piece.tab6 spec_l19Piece.bits6 (fun HT_ HW_ => ?_)
         generalize wr.drew = w27 at HB HR138_1 HR141_1 hx138_0 hx138_1 hx138_2 hx138_3 hx139_0 hx139_1 hx141_0 hx141_1 hx141_2 hx141_3 hx142_0 hx142_1 hHeld ⊢
         refine p1_ HT_.out 0 45 spec_l19Piece.d1 ?_
         refine p1_ HT_.out 1 46 spec_l19Piece.d2 ?_
         refine p1_ HT_.out 2 47 spec_l19Piece.d3 ?_
         refine p1_ HT_.out 4 49 spec_l19Piece.d4 ?_
         refine take_ (i := 3) (N := some 48) (v := ?_) (a' := ?_) spec_l19Piece.d5 rfl rfl (take_ofW HT_.out HW_.out (by kernel_rfl)) (fun _ _ _ h => h) (Or.inl ⟨by rfl, ?_⟩) hHeld ?_ ?_
         rotate_left
         · rintro w' ⟨s0, s1, s2, s3, s4, s5, s6, s7, s8, s9, s10, s11⟩
           go_simp
           with_reducible rfl
         rotate_left
         · simp only [Act.put, sA, sB, sC, i64_w, i32_w]
           rfl
         refine p1_ HT_.out 5 50 spec_l19Piece.d6 ?_
         refine p1_ HT_.out 6 51 spec_l19Piece.d7 ?_
         refine take_ (i := 7) (N := some 52) (v := ?_) (a' := ?_) spec_l19Piece.d8 rfl rfl (take_ofW HT_.out HW_.out (by kernel_rfl)) (fun _ _ _ h => h) (Or.inl ⟨by rfl, ?_⟩) hHeld ?_ ?_
         rotate_left
         · rintro w' ⟨s0, s1, s2, s3, s4, s5, s6, s7, s8, s9, s10, s11⟩
           go_simp
           with_reducible rfl
         rotate_left
         · simp only [Act.put, sA, sB, sC, i64_w, i32_w]
           rfl
         refine one_ (i := 8) (N := some 53) spec_l19Piece.d9 rfl rfl (one_of HT_.out (by kernel_rfl)) (by decide) (fun K hK => ?_)
         refine goes_ Try.func60 (by kernel_rfl) rfl #[.int .i64 ((rd_T105 ((rd_T53 l0 0).f1) x3_2).f0), .int .i64 0, .int .i64 5] (by rfl) rfl rfl (by (try simp only [List.map_toArray, List.map_cons, List.map_nil]); first | done | rfl | (simp only [List.length_drop, List.length_take]; rfl)) ?_
         with_reducible refine (spec_l00In.calls ((rd_T105 ((rd_T53 l0 0).f1) x3_2).f0) 0 5 true _ A13.out).mono ?_
         rintro e w' ⟨rfl, ⟨nd, rfl⟩⟩
         refine ⟨_, rfl, ?_⟩
         refine hK.out _ _ ⟨(bc_ HB.out hw138_0 :), (bc_ HB.out hw138_1 :), (bc_ HB.out hw138_2 :), (bc_ HB.out hw138_3 :), (bc_ HB.out hw139_0 :), (bc_ HB.out hw139_1 :), (bc_ HB.out hw141_0 :), (bc_ HB.out hw141_1 :), (bc_ HB.out hw141_2 :), (bc_ HB.out hw141_3 :), (bc_ HB.out hw142_0 :), (bc_ HB.out hw142_1 :)⟩ (fun hHeld => ?_)
         clear hK K
         refine norm_ (a' := ?_) ?_ ?_
         rotate_left
         · show Act.put _ (some 53) _ = _
           simp only [Act.put, sA, sB, sC, i64_w, i32_w]
           rfl
         refine p1_ HT_.out 9 54 spec_l19Piece.d10 ?_
         refine p1_ HT_.out 10 55 spec_l19Piece.d11 ?_
         refine p1_ HT_.out 11 56 spec_l19Piece.d12 ?_
         refine p1_ HT_.out 12 57 spec_l19Piece.d13 ?_
         refine p1_ HT_.out 13 58 spec_l19Piece.d14 ?_
         refine p1_ HT_.out 15 60 spec_l19Piece.d15 ?_
         refine take_ (i := 14) (N := some 59) (v := ?_) (a' := ?_) spec_l19Piece.d16 rfl rfl (take_ofW HT_.out HW_.out (by kernel_rfl)) (fun _ _ _ h => h) (Or.inl ⟨by rfl, ?_⟩) hHeld ?_ ?_
         rotate_left
         · rintro w' ⟨s0, s1, s2, s3, s4, s5, s6, s7, s8, s9, s10, s11⟩
           go_simp
           with_reducible rfl
         rotate_left
         · simp only [Act.put, sA, sB, sC, i64_w, i32_w]
           rfl
         refine p1_ HT_.out 16 61 spec_l19Piece.d17 ?_
         refine p1_ HT_.out 17 62 spec_l19Piece.d18 ?_
         refine take_ (i := 18) (N := some 63) (v := ?_) (a' := ?_) spec_l19Piece.d19 rfl rfl (take_ofW HT_.out HW_.out (by kernel_rfl)) (fun _ _ _ h => h) (Or.inl ⟨by rfl, ?_⟩) hHeld ?_ ?_
         rotate_left
         · rintro w' ⟨s0, s1, s2, s3, s4, s5, s6, s7, s8, s9, s10, s11⟩
           go_simp
           with_reducible rfl
         rotate_left
         · simp only [Act.put, sA, sB, sC, i64_w, i32_w]
           rfl
         refine one_ (i := 19) (N := some 64) spec_l19Piece.d20 rfl rfl (one_of HT_.out (by kernel_rfl)) (by decide) (fun K hK => ?_)
         refine goes_ Try.func60 (by kernel_rfl) rfl #[.int .i64 ((rd_T105 ((rd_T53 l0 0).f1) x3_2).f1), .int .i64 0, .int .i64 5] (by rfl) rfl rfl (by (try simp only [List.map_toArray, List.map_cons, List.map_nil]); first | done | rfl | (simp only [List.length_drop, List.length_take]; rfl)) ?_
         with_reducible refine (spec_l00In.calls ((rd_T105 ((rd_T53 l0 0).f1) x3_2).f1) 0 5 true _ A15.out).mono ?_
         rintro e w' ⟨rfl, ⟨nd, rfl⟩⟩
         refine ⟨_, rfl, ?_⟩
         refine hK.out _ _ ⟨(bc_ HB.out hw138_0 :), (bc_ HB.out hw138_1 :), (bc_ HB.out hw138_2 :), (bc_ HB.out hw138_3 :), (bc_ HB.out hw139_0 :), (bc_ HB.out hw139_1 :), (bc_ HB.out hw141_0 :), (bc_ HB.out hw141_1 :), (bc_ HB.out hw141_2 :), (bc_ HB.out hw141_3 :), (bc_ HB.out hw142_0 :), (bc_ HB.out hw142_1 :)⟩ (fun hHeld => ?_)
         clear hK K
         refine norm_ (a' := ?_) ?_ ?_
         rotate_left
         · show Act.put _ (some 64) _ = _
           simp only [Act.put, sA, sB, sC, i64_w, i32_w]
           rfl
         refine p1_ HT_.out 20 65 spec_l19Piece.d21 ?_
         refine p1_ HT_.out 21 66 spec_l19Piece.d22 ?_
         refine p1_ HT_.out 22 67 spec_l19Piece.d23 ?_
         refine p1_ HT_.out 23 68 spec_l19Piece.d24 ?_
         refine p1_ HT_.out 24 69 spec_l19Piece.d25 ?_
         refine p1_ HT_.out 25 70 spec_l19Piece.d26 ?_
         refine p0_ HT_.out 26 71 spec_l19Piece.d27 ?_
         refine p0_ HT_.out 27 72 spec_l19Piece.d28 ?_
         refine p0_ HT_.out 28 73 spec_l19Piece.d29 ?_
         refine p0_ HT_.out 29 74 spec_l19Piece.d46 ?_
         refine p0_ HT_.out 30 75 spec_l19Piece.d47 ?_
         refine p0_ HT_.out 31 76 spec_l19Piece.d48 ?_
         refine p0_ HT_.out 32 77 spec_l19Piece.d49 ?_
         refine p0_ HT_.out 33 78 spec_l19Piece.d50 ?_
         refine p0_ HT_.out 34 79 spec_l19Piece.d51 ?_
         refine p0_ HT_.out 35 80 spec_l19Piece.d52 ?_
         refine p0_ HT_.out 36 81 spec_l19Piece.d53 ?_
         refine p0_ HT_.out 37 82 spec_l19Piece.d54 ?_
         refine p0_ HT_.out 38 83 spec_l19Piece.d39 ?_
         refine p0_ HT_.out 39 84 spec_l19Piece.d40 ?_
         refine p0_ HT_.out 40 85 spec_l19Piece.d41 ?_
         refine p0_ HT_.out 41 86 spec_l19Piece.d42 ?_
         refine p0_ HT_.out 42 87 spec_l19Piece.d43 ?_
         refine p1_ HT_.out 43 88 spec_l19Piece.d44 ?_
         refine p1_ HT_.out 44 89 spec_l19Piece.d45 ?_
         refine done_ (done_of HT_.out (by kernel_rfl)) ?_
         try go_wp2
         go_roundg k2
         case measure => have := HJ1.out; have := HK2.out; omega
         case rel => exact ⟨(wrap64 (x3_2 + 1)), (by first | rfl | (simp; done) | (simp [*]; done) | (simp [i64_w, i32_w]; done)), H', ⟨by have := HJ1.out; have := HK2.out; omega⟩, ⟨by repeat (first | (with_reducible first | exact HB.out | apply below_alloc | apply pw_below_drewN | apply below_drew1) | exact HB.out)⟩⟩
       rw [if_pos c17] at H
       have c17b0 : decide (0 < x3_2) = true := decide_eq_true c17
       clear c17
       obtain ⟨ji18, hji18⟩ : ∃ j_ : Int, (wrap64 (x3_2 - 1)) = j_ := ⟨_, rfl⟩
       replace H : (if 0 ≤ (ji18) then (if (ji18) < (((rd_T53 l0 0).f1).length : Int) then ((spec_l19Before.f ((rd_T105 ((rd_T53 l0 0).f1) (ji18)).f0) ((rd_T105 ((rd_T53 l0 0).f1) (ji18)).f1) ((rd_T105 ((rd_T53 l0 0).f1) x3_2).f0) ((rd_T105 ((rd_T53 l0 0).f1) x3_2).f1)).bind fun t148 => (if t148 = true then (spec_l19Piece.l0 k2 (wrap64 (x3_2 + 1)) l0) else (some false))) else (none)) else (none)) = some r := by first | (rw [hji18] at H; exact H) | (simp only [hji18] at H ⊢; exact H)
       (try rw [hji18] at A13)
       (try rw [hji18] at A15)
       have hji18w : (IntKind.i64.wrap (x3_2 - 1)) = ji18 := (i64_w _).trans hji18
       by_cases c19 : 0 ≤ (ji18)
       rotate_left
       · rw [if_neg c19] at H
         exact absurd H (by simp)
       rw [if_pos c19] at H
       have c19b0 : decide (0 ≤ (ji18)) = true := decide_eq_true c19
       clear c19
       by_cases c20 : (ji18) < (((rd_T53 l0 0).f1).length : Int)
       rotate_left
       · rw [if_neg c20] at H
         exact absurd H (by simp)
       rw [if_pos c20] at H
       have c20b0 : decide ((ji18) < (((rd_T53 l0 0).f1).length : Int)) = true := decide_eq_true c20
       clear c20
       replace H := Option.bind_eq_some_iff.mp H
       obtain ⟨t148, A210, H⟩ := H
       replace H : (if t148 = true then (spec_l19Piece.l0 k2 (wrap64 (x3_2 + 1)) l0) else (some false)) = some r := H
       have A21 := mkA A210
       clear A210
       by_cases c22 : t148 = true
       rotate_left
       · replace c22 := Bool.eq_false_iff.mpr c22
         subst c22
         have H1 : (some false) = some r := by rw [if_neg (show ¬ (false = true) by decide)] at H; exact H
         clear H
         have H := H1
         clear H1
         obtain rfl := Option.some.inj H
         have p130 : 0 ≤ (0 : Int) := (by omega)
         have q130 : 0 < (l0.length : Int) := dt_
         obtain ⟨ad130, A130_1, c130_1, e130, hx130_0, hx130_1, hx130_2, hx130_3, hl130_1, hi130_1⟩ := at0_T53 HR0.out q130
         cases e130
         have qi130 : (0 < l0.length) = True := eq_true (by omega)
         replace hx130_0 := bc_ HB.out hx130_0
         replace hx130_1 := bc_ HB.out hx130_1
         replace hx130_2 := bc_ HB.out hx130_2
         replace hx130_3 := bc_ HB.out hx130_3
         have HR130_1 := mkA hi130_1
         have HC130_1 := mkA hl130_1
         clear hi130_1 hl130_1
         replace p130 := eq_true p130
         replace q130 := eq_true q130
         try go_wp2
         have n0_ := mkA (below_drew1 HB.out)
         clear HB
         have HB := n0_
         clear n0_
         have p138 : 0 ≤ (0 : Int) := (by omega)
         have q138 : 0 < (l0.length : Int) := dt_
         obtain ⟨ad138, A138_1, c138_1, e138, hx138_0, hx138_1, hx138_2, hx138_3, hl138_1, hi138_1⟩ := at0_T53 HR0.out q138
         have hw138_3 := hx138_3
         have hw138_2 := hx138_2
         have hw138_1 := hx138_1
         have hw138_0 := hx138_0
         obtain rfl : ad130 = ad138 := (by injection e138)
         have qi138 : (0 < l0.length) = True := eq_true (by omega)
         replace hx138_0 := bc_ HB.out hx138_0
         replace hx138_1 := bc_ HB.out hx138_1
         replace hx138_2 := bc_ HB.out hx138_2
         replace hx138_3 := bc_ HB.out hx138_3
         have HR138_1 := mkA hi138_1
         have HC138_1 := mkA hl138_1
         clear hi138_1 hl138_1
         replace p138 := eq_true p138
         replace q138 := eq_true q138
         have p139 : 0 ≤ (x3_2 : Int) := dt_
         have q139 : x3_2 < (((rd_T53 l0 0).f1).length : Int) := dt_
         obtain ⟨ad139, e139, hx139_0, hx139_1⟩ := at_T105 HR138_1.out x3_2 p139 q139
         have hw139_1 := hx139_1
         have hw139_0 := hx139_0
         cases e139
         replace hx139_0 := bc_ HB.out hx139_0
         replace hx139_1 := bc_ HB.out hx139_1
         replace p139 := eq_true p139
         replace q139 := eq_true q139
         have p141 : 0 ≤ (0 : Int) := (by omega)
         have q141 : 0 < (l0.length : Int) := dt_
         obtain ⟨ad141, A141_1, c141_1, e141, hx141_0, hx141_1, hx141_2, hx141_3, hl141_1, hi141_1⟩ := at0_T53 HR0.out q141
         have hw141_3 := hx141_3
         have hw141_2 := hx141_2
         have hw141_1 := hx141_1
         have hw141_0 := hx141_0
         obtain rfl : ad130 = ad141 := (by injection e141)
         have qi141 : (0 < l0.length) = True := eq_true (by omega)
         replace hx141_0 := bc_ HB.out hx141_0
         replace hx141_1 := bc_ HB.out hx141_1
         replace hx141_2 := bc_ HB.out hx141_2
         replace hx141_3 := bc_ HB.out hx141_3
         have HR141_1 := mkA hi141_1
         have HC141_1 := mkA hl141_1
         clear hi141_1 hl141_1
         replace p141 := eq_true p141
         replace q141 := eq_true q141
         have ea_ := Option.some.inj (hx138_1.symm.trans hx141_1)
         injection ea_ with ea_ en_ ec_
         subst ea_
         subst ec_
         clear en_
         have p142 : 0 ≤ (x3_2 : Int) := dt_
         have q142 : x3_2 < (((rd_T53 l0 0).f1).length : Int) := dt_
         obtain ⟨ad142, e142, hx142_0, hx142_1⟩ := at_T105 HR141_1.out x3_2 p142 q142
         have hw142_1 := hx142_1
         have hw142_0 := hx142_0
         obtain rfl : ad139 = ad142 := (by injection e142)
         replace hx142_0 := bc_ HB.out hx142_0
         replace hx142_1 := bc_ HB.out hx142_1
         replace p142 := eq_true p142
         replace q142 := eq_true q142
         have p144 : 0 ≤ (0 : Int) := (by omega)
         have q144 : 0 < (l0.length : Int) := dt_
         obtain ⟨ad144, A144_1, c144_1, e144, hx144_0, hx144_1, hx144_2, hx144_3, hl144_1, hi144_1⟩ := at0_T53 HR0.out q144
         have hw144_3 := hx144_3
         have hw144_2 := hx144_2
         have hw144_1 := hx144_1
         have hw144_0 := hx144_0
         obtain rfl : ad130 = ad144 := (by injection e144)
         have qi144 : (0 < l0.length) = True := eq_true (by omega)
         replace hx144_0 := bc_ HB.out hx144_0
         replace hx144_1 := bc_ HB.out hx144_1
         replace hx144_2 := bc_ HB.out hx144_2
         replace hx144_3 := bc_ HB.out hx144_3
         have HR144_1 := mkA hi144_1
         have HC144_1 := mkA hl144_1
         clear hi144_1 hl144_1
         replace p144 := eq_true p144
         replace q144 := eq_true q144
         have ea_ := Option.some.inj (hx138_1.symm.trans hx144_1)
         injection ea_ with ea_ en_ ec_
         subst ea_
         subst ec_
         clear en_
         have p145 : 0 ≤ ((ji18) : Int) := dt_
         have q145 : (ji18) < (((rd_T53 l0 0).f1).length : Int) := dt_
         obtain ⟨ad145, e145, hx145_0, hx145_1⟩ := at_T105 HR144_1.out (ji18) p145 q145
         have hw145_1 := hx145_1
         have hw145_0 := hx145_0
         obtain rfl : ad139 = ad145 := (by injection e145)
         replace hx145_0 := bc_ HB.out hx145_0
         replace hx145_1 := bc_ HB.out hx145_1
         replace p145 := eq_true p145
         replace q145 := eq_true q145
         have p146 : 0 ≤ (0 : Int) := (by omega)
         have q146 : 0 < (l0.length : Int) := dt_
         obtain ⟨ad146, A146_1, c146_1, e146, hx146_0, hx146_1, hx146_2, hx146_3, hl146_1, hi146_1⟩ := at0_T53 HR0.out q146
         have hw146_3 := hx146_3
         have hw146_2 := hx146_2
         have hw146_1 := hx146_1
         have hw146_0 := hx146_0
         obtain rfl : ad130 = ad146 := (by injection e146)
         have qi146 : (0 < l0.length) = True := eq_true (by omega)
         replace hx146_0 := bc_ HB.out hx146_0
         replace hx146_1 := bc_ HB.out hx146_1
         replace hx146_2 := bc_ HB.out hx146_2
         replace hx146_3 := bc_ HB.out hx146_3
         have HR146_1 := mkA hi146_1
         have HC146_1 := mkA hl146_1
         clear hi146_1 hl146_1
         replace p146 := eq_true p146
         replace q146 := eq_true q146
         have ea_ := Option.some.inj (hx138_1.symm.trans hx146_1)
         injection ea_ with ea_ en_ ec_
         subst ea_
         subst ec_
         clear en_
         have p147 : 0 ≤ (x3_2 : Int) := dt_
         have q147 : x3_2 < (((rd_T53 l0 0).f1).length : Int) := dt_
         obtain ⟨ad147, e147, hx147_0, hx147_1⟩ := at_T105 HR146_1.out x3_2 p147 q147
         have hw147_1 := hx147_1
         have hw147_0 := hx147_0
         obtain rfl : ad139 = ad147 := (by injection e147)
         replace hx147_0 := bc_ HB.out hx147_0
         replace hx147_1 := bc_ HB.out hx147_1
         replace p147 := eq_true p147
         replace q147 := eq_true q147
         refine start_ (n := 45) (S := fun w' => w'.cell? ad130 = some (.string ((rd_T53 l0 0).f0)) ∧ w'.cell? ⟨ad130.block, ad130.off + 1, none⟩ = some (.slice (some ad139) ((rd_T53 l0 0).f1).length c138_1) ∧ w'.cell? ⟨ad130.block, ad130.off + 2, none⟩ = some (.int .i64 ((rd_T53 l0 0).f2)) ∧ w'.cell? ⟨ad130.block, ad130.off + 3, none⟩ = some (.bool ((rd_T53 l0 0).f3)) ∧ w'.cell? (ad139.add ((x3_2).toNat * 2)) = some (.int .i64 ((rd_T105 ((rd_T53 l0 0).f1) x3_2).f0)) ∧ w'.cell? ⟨(ad139.add ((x3_2).toNat * 2)).block, (ad139.add ((x3_2).toNat * 2)).off + 1, none⟩ = some (.int .i64 ((rd_T105 ((rd_T53 l0 0).f1) x3_2).f1)) ∧ w'.cell? ad130 = some (.string ((rd_T53 l0 0).f0)) ∧ w'.cell? ⟨ad130.block, ad130.off + 1, none⟩ = some (.slice (some ad139) ((rd_T53 l0 0).f1).length c138_1) ∧ w'.cell? ⟨ad130.block, ad130.off + 2, none⟩ = some (.int .i64 ((rd_T53 l0 0).f2)) ∧ w'.cell? ⟨ad130.block, ad130.off + 3, none⟩ = some (.bool ((rd_T53 l0 0).f3)) ∧ w'.cell? (ad139.add ((x3_2).toNat * 2)) = some (.int .i64 ((rd_T105 ((rd_T53 l0 0).f1) x3_2).f0)) ∧ w'.cell? ⟨(ad139.add ((x3_2).toNat * 2)).block, (ad139.add ((x3_2).toNat * 2)).off + 1, none⟩ = some (.int .i64 ((rd_T105 ((rd_T53 l0 0).f1) x3_2).f1)) ∧ w'.cell? ad130 = some (.string ((rd_T53 l0 0).f0)) ∧ w'.cell? ⟨ad130.block, ad130.off + 1, none⟩ = some (.slice (some ad139) ((rd_T53 l0 0).f1).length c138_1) ∧ w'.cell? ⟨ad130.block, ad130.off + 2, none⟩ = some (.int .i64 ((rd_T53 l0 0).f2)) ∧ w'.cell? ⟨ad130.block, ad130.off + 3, none⟩ = some (.bool ((rd_T53 l0 0).f3)) ∧ w'.cell? (ad139.add (((ji18)).toNat * 2)) = some (.int .i64 ((rd_T105 ((rd_T53 l0 0).f1) (ji18)).f0)) ∧ w'.cell? ⟨(ad139.add (((ji18)).toNat * 2)).block, (ad139.add (((ji18)).toNat * 2)).off + 1, none⟩ = some (.int .i64 ((rd_T105 ((rd_T53 l0 0).f1) (ji18)).f1)) ∧ w'.cell? ad130 = some (.string ((rd_T53 l0 0).f0)) ∧ w'.cell? ⟨ad130.block, ad130.off + 1, none⟩ = some (.slice (some ad139) ((rd_T53 l0 0).f1).length c138_1) ∧ w'.cell? ⟨ad130.block, ad130.off + 2, none⟩ = some (.int .i64 ((rd_T53 l0 0).f2)) ∧ w'.cell? ⟨ad130.block, ad130.off + 3, none⟩ = some (.bool ((rd_T53 l0 0).f3)) ∧ w'.cell? (ad139.add ((x3_2).toNat * 2)) = some (.int .i64 ((rd_T105 ((rd_T53 l0 0).f1) x3_2).f0)) ∧ w'.cell? ⟨(ad139.add ((x3_2).toNat * 2)).block, (ad139.add ((x3_2).toNat * 2)).off + 1, none⟩ = some (.int .i64 ((rd_T105 ((rd_T53 l0 0).f1) x3_2).f1))) (ds := []) spec_l19Piece.d0 (by kernel_rfl) rfl rfl ⟨(bc_ HB.out hw138_0 :), (bc_ HB.out hw138_1 :), (bc_ HB.out hw138_2 :), (bc_ HB.out hw138_3 :), (bc_ HB.out hw139_0 :), (bc_ HB.out hw139_1 :), (bc_ HB.out hw141_0 :), (bc_ HB.out hw141_1 :), (bc_ HB.out hw141_2 :), (bc_ HB.out hw141_3 :), (bc_ HB.out hw142_0 :), (bc_ HB.out hw142_1 :), (bc_ HB.out hw144_0 :), (bc_ HB.out hw144_1 :), (bc_ HB.out hw144_2 :), (bc_ HB.out hw144_3 :), (bc_ HB.out hw145_0 :), (bc_ HB.out hw145_1 :), (bc_ HB.out hw146_0 :), (bc_ HB.out hw146_1 :), (bc_ HB.out hw146_2 :), (bc_ HB.out hw146_3 :), (bc_ HB.out hw147_0 :), (bc_ HB.out hw147_1 :)⟩ (fun hHeld => ?_); refine with_tabW spec_l19Piece.tab6 spec_l19Piece.bits6 (fun HT_ HW_ => ?_)
         generalize wr.drew = w25 at HB HR138_1 HR141_1 HR144_1 HR146_1 hx138_0 hx138_1 hx138_2 hx138_3 hx139_0 hx139_1 hx141_0 hx141_1 hx141_2 hx141_3 hx142_0 hx142_1 hx144_0 hx144_1 hx144_2 hx144_3 hx145_0 hx145_1 hx146_0 hx146_1 hx146_2 hx146_3 hx147_0 hx147_1 hHeld ⊢
         refine p1_ HT_.out 0 45 spec_l19Piece.d1 ?_
         refine p1_ HT_.out 1 46 spec_l19Piece.d2 ?_
         refine p1_ HT_.out 2 47 spec_l19Piece.d3 ?_
         refine p1_ HT_.out 4 49 spec_l19Piece.d4 ?_
         refine take_ (i := 3) (N := some 48) (v := ?_) (a' := ?_) spec_l19Piece.d5 rfl rfl (take_ofW HT_.out HW_.out (by kernel_rfl)) (fun _ _ _ h => h) (Or.inl ⟨by rfl, ?_⟩) hHeld ?_ ?_
         rotate_left
         · rintro w' ⟨s0, s1, s2, s3, s4, s5, s6, s7, s8, s9, s10, s11, s12, s13, s14, s15, s16, s17, s18, s19, s20, s21, s22, s23⟩
           go_simp
           with_reducible rfl
         rotate_left
         · simp only [Act.put, sA, sB, sC, i64_w, i32_w]
           rfl
         refine p1_ HT_.out 5 50 spec_l19Piece.d6 ?_
         refine p1_ HT_.out 6 51 spec_l19Piece.d7 ?_
         refine take_ (i := 7) (N := some 52) (v := ?_) (a' := ?_) spec_l19Piece.d8 rfl rfl (take_ofW HT_.out HW_.out (by kernel_rfl)) (fun _ _ _ h => h) (Or.inl ⟨by rfl, ?_⟩) hHeld ?_ ?_
         rotate_left
         · rintro w' ⟨s0, s1, s2, s3, s4, s5, s6, s7, s8, s9, s10, s11, s12, s13, s14, s15, s16, s17, s18, s19, s20, s21, s22, s23⟩
           go_simp
           with_reducible rfl
         rotate_left
         · simp only [Act.put, sA, sB, sC, i64_w, i32_w]
           rfl
         refine one_ (i := 8) (N := some 53) spec_l19Piece.d9 rfl rfl (one_of HT_.out (by kernel_rfl)) (by decide) (fun K hK => ?_)
         refine goes_ Try.func60 (by kernel_rfl) rfl #[.int .i64 ((rd_T105 ((rd_T53 l0 0).f1) x3_2).f0), .int .i64 0, .int .i64 5] (by rfl) rfl rfl (by (try simp only [List.map_toArray, List.map_cons, List.map_nil]); first | done | rfl | (simp only [List.length_drop, List.length_take]; rfl)) ?_
         with_reducible refine (spec_l00In.calls ((rd_T105 ((rd_T53 l0 0).f1) x3_2).f0) 0 5 true _ A13.out).mono ?_
         rintro e w' ⟨rfl, ⟨nd, rfl⟩⟩
         refine ⟨_, rfl, ?_⟩
         refine hK.out _ _ ⟨(bc_ HB.out hw138_0 :), (bc_ HB.out hw138_1 :), (bc_ HB.out hw138_2 :), (bc_ HB.out hw138_3 :), (bc_ HB.out hw139_0 :), (bc_ HB.out hw139_1 :), (bc_ HB.out hw141_0 :), (bc_ HB.out hw141_1 :), (bc_ HB.out hw141_2 :), (bc_ HB.out hw141_3 :), (bc_ HB.out hw142_0 :), (bc_ HB.out hw142_1 :), (bc_ HB.out hw144_0 :), (bc_ HB.out hw144_1 :), (bc_ HB.out hw144_2 :), (bc_ HB.out hw144_3 :), (bc_ HB.out hw145_0 :), (bc_ HB.out hw145_1 :), (bc_ HB.out hw146_0 :), (bc_ HB.out hw146_1 :), (bc_ HB.out hw146_2 :), (bc_ HB.out hw146_3 :), (bc_ HB.out hw147_0 :), (bc_ HB.out hw147_1 :)⟩ (fun hHeld => ?_)
         clear hK K
         refine norm_ (a' := ?_) ?_ ?_
         rotate_left
         · show Act.put _ (some 53) _ = _
           simp only [Act.put, sA, sB, sC, i64_w, i32_w]
           rfl
         refine p1_ HT_.out 9 54 spec_l19Piece.d10 ?_
         refine p1_ HT_.out 10 55 spec_l19Piece.d11 ?_
         refine p1_ HT_.out 11 56 spec_l19Piece.d12 ?_
         refine p1_ HT_.out 12 57 spec_l19Piece.d13 ?_
         refine p1_ HT_.out 13 58 spec_l19Piece.d14 ?_
         refine p1_ HT_.out 15 60 spec_l19Piece.d15 ?_
         refine take_ (i := 14) (N := some 59) (v := ?_) (a' := ?_) spec_l19Piece.d16 rfl rfl (take_ofW HT_.out HW_.out (by kernel_rfl)) (fun _ _ _ h => h) (Or.inl ⟨by rfl, ?_⟩) hHeld ?_ ?_
         rotate_left
         · rintro w' ⟨s0, s1, s2, s3, s4, s5, s6, s7, s8, s9, s10, s11, s12, s13, s14, s15, s16, s17, s18, s19, s20, s21, s22, s23⟩
           go_simp
           with_reducible rfl
         rotate_left
         · simp only [Act.put, sA, sB, sC, i64_w, i32_w]
           rfl
         refine p1_ HT_.out 16 61 spec_l19Piece.d17 ?_
         refine p1_ HT_.out 17 62 spec_l19Piece.d18 ?_
         refine take_ (i := 18) (N := some 63) (v := ?_) (a' := ?_) spec_l19Piece.d19 rfl rfl (take_ofW HT_.out HW_.out (by kernel_rfl)) (fun _ _ _ h => h) (Or.inl ⟨by rfl, ?_⟩) hHeld ?_ ?_
         rotate_left
         · rintro w' ⟨s0, s1, s2, s3, s4, s5, s6, s7, s8, s9, s10, s11, s12, s13, s14, s15, s16, s17, s18, s19, s20, s21, s22, s23⟩
           go_simp
           with_reducible rfl
         rotate_left
         · simp only [Act.put, sA, sB, sC, i64_w, i32_w]
           rfl
         refine one_ (i := 19) (N := some 64) spec_l19Piece.d20 rfl rfl (one_of HT_.out (by kernel_rfl)) (by decide) (fun K hK => ?_)
         refine goes_ Try.func60 (by kernel_rfl) rfl #[.int .i64 ((rd_T105 ((rd_T53 l0 0).f1) x3_2).f1), .int .i64 0, .int .i64 5] (by rfl) rfl rfl (by (try simp only [List.map_toArray, List.map_cons, List.map_nil]); first | done | rfl | (simp only [List.length_drop, List.length_take]; rfl)) ?_
         with_reducible refine (spec_l00In.calls ((rd_T105 ((rd_T53 l0 0).f1) x3_2).f1) 0 5 true _ A15.out).mono ?_
         rintro e w' ⟨rfl, ⟨nd, rfl⟩⟩
         refine ⟨_, rfl, ?_⟩
         refine hK.out _ _ ⟨(bc_ HB.out hw138_0 :), (bc_ HB.out hw138_1 :), (bc_ HB.out hw138_2 :), (bc_ HB.out hw138_3 :), (bc_ HB.out hw139_0 :), (bc_ HB.out hw139_1 :), (bc_ HB.out hw141_0 :), (bc_ HB.out hw141_1 :), (bc_ HB.out hw141_2 :), (bc_ HB.out hw141_3 :), (bc_ HB.out hw142_0 :), (bc_ HB.out hw142_1 :), (bc_ HB.out hw144_0 :), (bc_ HB.out hw144_1 :), (bc_ HB.out hw144_2 :), (bc_ HB.out hw144_3 :), (bc_ HB.out hw145_0 :), (bc_ HB.out hw145_1 :), (bc_ HB.out hw146_0 :), (bc_ HB.out hw146_1 :), (bc_ HB.out hw146_2 :), (bc_ HB.out hw146_3 :), (bc_ HB.out hw147_0 :), (bc_ HB.out hw147_1 :)⟩ (fun hHeld => ?_)
         clear hK K
         refine norm_ (a' := ?_) ?_ ?_
         rotate_left
         · show Act.put _ (some 64) _ = _
           simp only [Act.put, sA, sB, sC, i64_w, i32_w]
           rfl
         refine p1_ HT_.out 20 65 spec_l19Piece.d21 ?_
         refine p1_ HT_.out 21 66 spec_l19Piece.d22 ?_
         refine p1_ HT_.out 22 67 spec_l19Piece.d23 ?_
         refine p1_ HT_.out 23 68 spec_l19Piece.d24 ?_
         refine p1_ HT_.out 24 69 spec_l19Piece.d25 ?_
         refine p1_ HT_.out 25 70 spec_l19Piece.d26 ?_
         refine p1_ HT_.out 26 71 spec_l19Piece.d27 ?_
         refine p1_ HT_.out 27 72 spec_l19Piece.d28 ?_
         refine p1_ HT_.out 28 73 spec_l19Piece.d29 ?_
         refine p1_ HT_.out 30 75 spec_l19Piece.d30 ?_
         refine p1_ HT_.out 31 76 spec_l19Piece.d31 ?_
         refine p1_ HT_.out 34 79 spec_l19Piece.d32 ?_
         refine p1_ HT_.out 35 80 spec_l19Piece.d33 ?_
         refine p1_ HT_.out 36 81 spec_l19Piece.d34 ?_
         refine p1_ HT_.out 38 83 spec_l19Piece.d35 ?_
         refine take_ (i := 29) (N := some 74) (v := ?_) (a' := ?_) spec_l19Piece.d36 rfl rfl (take_ofW HT_.out HW_.out (by kernel_rfl)) (fun _ _ _ h => h) (Or.inl ⟨by rfl, ?_⟩) hHeld ?_ ?_
         rotate_left
         · rintro w' ⟨s0, s1, s2, s3, s4, s5, s6, s7, s8, s9, s10, s11, s12, s13, s14, s15, s16, s17, s18, s19, s20, s21, s22, s23⟩
           go_simp
           with_reducible rfl
         rotate_left
         · simp only [Act.put, sA, sB, sC, i64_w, i32_w]
           rfl
         refine p1_ HT_.out 32 77 spec_l19Piece.d37 ?_
         refine take_ (i := 33) (N := some 78) (v := ?_) (a' := ?_) spec_l19Piece.d38 rfl rfl (take_ofW HT_.out HW_.out (by kernel_rfl)) (fun _ _ _ h => h) (Or.inl ⟨by rfl, ?_⟩) hHeld ?_ ?_
         rotate_left
         · rintro w' ⟨s0, s1, s2, s3, s4, s5, s6, s7, s8, s9, s10, s11, s12, s13, s14, s15, s16, s17, s18, s19, s20, s21, s22, s23⟩
           go_simp
           with_reducible rfl
         rotate_left
         · simp only [Act.put, sA, sB, sC, i64_w, i32_w]
           rfl
         refine take_ (i := 37) (N := some 82) (v := ?_) (a' := ?_) spec_l19Piece.d39 rfl rfl (take_ofW HT_.out HW_.out (by kernel_rfl)) (fun _ _ _ h => h) (Or.inl ⟨by rfl, ?_⟩) hHeld ?_ ?_
         rotate_left
         · rintro w' ⟨s0, s1, s2, s3, s4, s5, s6, s7, s8, s9, s10, s11, s12, s13, s14, s15, s16, s17, s18, s19, s20, s21, s22, s23⟩
           go_simp
           with_reducible rfl
         rotate_left
         · simp only [Act.put, sA, sB, sC, i64_w, i32_w]
           rfl
         refine p1_ HT_.out 39 84 spec_l19Piece.d40 ?_
         refine take_ (i := 40) (N := some 85) (v := ?_) (a' := ?_) spec_l19Piece.d41 rfl rfl (take_ofW HT_.out HW_.out (by kernel_rfl)) (fun _ _ _ h => h) (Or.inl ⟨by rfl, ?_⟩) hHeld ?_ ?_
         rotate_left
         · rintro w' ⟨s0, s1, s2, s3, s4, s5, s6, s7, s8, s9, s10, s11, s12, s13, s14, s15, s16, s17, s18, s19, s20, s21, s22, s23⟩
           go_simp
           with_reducible rfl
         rotate_left
         · simp only [Act.put, sA, sB, sC, i64_w, i32_w]
           rfl
         refine one_ (i := 41) (N := some 86) spec_l19Piece.d42 rfl rfl (one_of HT_.out (by kernel_rfl)) (by decide) (fun K hK => ?_)
         refine goes_ Try.func92 (by kernel_rfl) rfl #[.agg #[.int .i64 ((rd_T105 ((rd_T53 l0 0).f1) (ji18)).f0), .int .i64 ((rd_T105 ((rd_T53 l0 0).f1) (ji18)).f1)], .agg #[.int .i64 ((rd_T105 ((rd_T53 l0 0).f1) x3_2).f0), .int .i64 ((rd_T105 ((rd_T53 l0 0).f1) x3_2).f1)]] (by rfl) rfl rfl (by (try simp only [List.map_toArray, List.map_cons, List.map_nil]); first | done | (simp only [hji18]; rfl) | rfl | (simp only [List.length_drop, List.length_take]; rfl)) ?_
         with_reducible refine (spec_l19Before.calls ((rd_T105 ((rd_T53 l0 0).f1) (ji18)).f0) ((rd_T105 ((rd_T53 l0 0).f1) (ji18)).f1) ((rd_T105 ((rd_T53 l0 0).f1) x3_2).f0) ((rd_T105 ((rd_T53 l0 0).f1) x3_2).f1) false _ A21.out).mono ?_
         rintro e w26 ⟨rfl, hb⟩
         refine ⟨_, rfl, ?_⟩
         have n0_ := mkA (below_step (bs0_ HB.out) hb)
         clear HB
         have HB := n0_
         clear n0_
         (try clear hb)
         (try clear hb2)
         (try clear hk)
         (try clear hi)
         refine hK.out _ _ ⟨(bc_ HB.out hw138_0 :), (bc_ HB.out hw138_1 :), (bc_ HB.out hw138_2 :), (bc_ HB.out hw138_3 :), (bc_ HB.out hw139_0 :), (bc_ HB.out hw139_1 :), (bc_ HB.out hw141_0 :), (bc_ HB.out hw141_1 :), (bc_ HB.out hw141_2 :), (bc_ HB.out hw141_3 :), (bc_ HB.out hw142_0 :), (bc_ HB.out hw142_1 :), (bc_ HB.out hw144_0 :), (bc_ HB.out hw144_1 :), (bc_ HB.out hw144_2 :), (bc_ HB.out hw144_3 :), (bc_ HB.out hw145_0 :), (bc_ HB.out hw145_1 :), (bc_ HB.out hw146_0 :), (bc_ HB.out hw146_1 :), (bc_ HB.out hw146_2 :), (bc_ HB.out hw146_3 :), (bc_ HB.out hw147_0 :), (bc_ HB.out hw147_1 :)⟩ (fun hHeld => ?_)
         clear hK K
         refine norm_ (a' := ?_) ?_ ?_
         rotate_left
         · show Act.put _ (some 86) _ = _
           simp only [Act.put, sA, sB, sC, i64_w, i32_w]
           rfl
         refine p1_ HT_.out 42 87 spec_l19Piece.d43 ?_
         refine p1_ HT_.out 43 88 spec_l19Piece.d44 ?_
         refine p1_ HT_.out 44 89 spec_l19Piece.d45 ?_
         refine done_ (done_of HT_.out (by kernel_rfl)) ?_
         try go_wp2
         go_ret
         exact ⟨by first | rfl | (simp [errW_none, errW_some] <;> rfl) | (simp only [← hji18]; first | rfl | (simp [errW_none, errW_some] <;> rfl)) | (simp [*, errW_none, errW_some] <;> rfl), by repeat (first | (with_reducible first | exact HB.out | apply below_alloc | apply pw_below_drewN | apply below_drew1) | exact HB.out)⟩
       subst c22
       have H1 : (spec_l19Piece.l0 k2 (wrap64 (x3_2 + 1)) l0) = some r := by rw [if_pos rfl] at H; exact H
       clear H
       have H := H1
       clear H1
       have H' := mkA H
       clear H
       have p130 : 0 ≤ (0 : Int) := (by omega)
       have q130 : 0 < (l0.length : Int) := dt_
       obtain ⟨ad130, A130_1, c130_1, e130, hx130_0, hx130_1, hx130_2, hx130_3, hl130_1, hi130_1⟩ := at0_T53 HR0.out q130
       cases e130
       have qi130 : (0 < l0.length) = True := eq_true (by omega)
       replace hx130_0 := bc_ HB.out hx130_0
       replace hx130_1 := bc_ HB.out hx130_1
       replace hx130_2 := bc_ HB.out hx130_2
       replace hx130_3 := bc_ HB.out hx130_3
       have HR130_1 := mkA hi130_1
       have HC130_1 := mkA hl130_1
       clear hi130_1 hl130_1
       replace p130 := eq_true p130
       replace q130 := eq_true q130
       try go_wp2
       have n0_ := mkA (below_drew1 HB.out)
       clear HB
       have HB := n0_
       clear n0_
       have p138 : 0 ≤ (0 : Int) := (by omega)
       have q138 : 0 < (l0.length : Int) := dt_
       obtain ⟨ad138, A138_1, c138_1, e138, hx138_0, hx138_1, hx138_2, hx138_3, hl138_1, hi138_1⟩ := at0_T53 HR0.out q138
       have hw138_3 := hx138_3
       have hw138_2 := hx138_2
       have hw138_1 := hx138_1
       have hw138_0 := hx138_0
       obtain rfl : ad130 = ad138 := (by injection e138)
       have qi138 : (0 < l0.length) = True := eq_true (by omega)
       replace hx138_0 := bc_ HB.out hx138_0
       replace hx138_1 := bc_ HB.out hx138_1
       replace hx138_2 := bc_ HB.out hx138_2
       replace hx138_3 := bc_ HB.out hx138_3
       have HR138_1 := mkA hi138_1
       have HC138_1 := mkA hl138_1
       clear hi138_1 hl138_1
       replace p138 := eq_true p138
       replace q138 := eq_true q138
       have p139 : 0 ≤ (x3_2 : Int) := dt_
       have q139 : x3_2 < (((rd_T53 l0 0).f1).length : Int) := dt_
       obtain ⟨ad139, e139, hx139_0, hx139_1⟩ := at_T105 HR138_1.out x3_2 p139 q139
       have hw139_1 := hx139_1
       have hw139_0 := hx139_0
       cases e139
       replace hx139_0 := bc_ HB.out hx139_0
       replace hx139_1 := bc_ HB.out hx139_1
       replace p139 := eq_true p139
       replace q139 := eq_true q139
       have p141 : 0 ≤ (0 : Int) := (by omega)
       have q141 : 0 < (l0.length : Int) := dt_
       obtain ⟨ad141, A141_1, c141_1, e141, hx141_0, hx141_1, hx141_2, hx141_3, hl141_1, hi141_1⟩ := at0_T53 HR0.out q141
       have hw141_3 := hx141_3
       have hw141_2 := hx141_2
       have hw141_1 := hx141_1
       have hw141_0 := hx141_0
       obtain rfl : ad130 = ad141 := (by injection e141)
       have qi141 : (0 < l0.length) = True := eq_true (by omega)
       replace hx141_0 := bc_ HB.out hx141_0
       replace hx141_1 := bc_ HB.out hx141_1
       replace hx141_2 := bc_ HB.out hx141_2
       replace hx141_3 := bc_ HB.out hx141_3
       have HR141_1 := mkA hi141_1
       have HC141_1 := mkA hl141_1
       clear hi141_1 hl141_1
       replace p141 := eq_true p141
       replace q141 := eq_true q141
       have ea_ := Option.some.inj (hx138_1.symm.trans hx141_1)
       injection ea_ with ea_ en_ ec_
       subst ea_
       subst ec_
       clear en_
       have p142 : 0 ≤ (x3_2 : Int) := dt_
       have q142 : x3_2 < (((rd_T53 l0 0).f1).length : Int) := dt_
       obtain ⟨ad142, e142, hx142_0, hx142_1⟩ := at_T105 HR141_1.out x3_2 p142 q142
       have hw142_1 := hx142_1
       have hw142_0 := hx142_0
       obtain rfl : ad139 = ad142 := (by injection e142)
       replace hx142_0 := bc_ HB.out hx142_0
       replace hx142_1 := bc_ HB.out hx142_1
       replace p142 := eq_true p142
       replace q142 := eq_true q142
       have p144 : 0 ≤ (0 : Int) := (by omega)
       have q144 : 0 < (l0.length : Int) := dt_
       obtain ⟨ad144, A144_1, c144_1, e144, hx144_0, hx144_1, hx144_2, hx144_3, hl144_1, hi144_1⟩ := at0_T53 HR0.out q144
       have hw144_3 := hx144_3
       have hw144_2 := hx144_2
       have hw144_1 := hx144_1
       have hw144_0 := hx144_0
       obtain rfl : ad130 = ad144 := (by injection e144)
       have qi144 : (0 < l0.length) = True := eq_true (by omega)
       replace hx144_0 := bc_ HB.out hx144_0
       replace hx144_1 := bc_ HB.out hx144_1
       replace hx144_2 := bc_ HB.out hx144_2
       replace hx144_3 := bc_ HB.out hx144_3
       have HR144_1 := mkA hi144_1
       have HC144_1 := mkA hl144_1
       clear hi144_1 hl144_1
       replace p144 := eq_true p144
       replace q144 := eq_true q144
       have ea_ := Option.some.inj (hx138_1.symm.trans hx144_1)
       injection ea_ with ea_ en_ ec_
       subst ea_
       subst ec_
       clear en_
       have p145 : 0 ≤ ((ji18) : Int) := dt_
       have q145 : (ji18) < (((rd_T53 l0 0).f1).length : Int) := dt_
       obtain ⟨ad145, e145, hx145_0, hx145_1⟩ := at_T105 HR144_1.out (ji18) p145 q145
       have hw145_1 := hx145_1
       have hw145_0 := hx145_0
       obtain rfl : ad139 = ad145 := (by injection e145)
       replace hx145_0 := bc_ HB.out hx145_0
       replace hx145_1 := bc_ HB.out hx145_1
       replace p145 := eq_true p145
       replace q145 := eq_true q145
       have p146 : 0 ≤ (0 : Int) := (by omega)
       have q146 : 0 < (l0.length : Int) := dt_
       obtain ⟨ad146, A146_1, c146_1, e146, hx146_0, hx146_1, hx146_2, hx146_3, hl146_1, hi146_1⟩ := at0_T53 HR0.out q146
       have hw146_3 := hx146_3
       have hw146_2 := hx146_2
       have hw146_1 := hx146_1
       have hw146_0 := hx146_0
       obtain rfl : ad130 = ad146 := (by injection e146)
       have qi146 : (0 < l0.length) = True := eq_true (by omega)
       replace hx146_0 := bc_ HB.out hx146_0
       replace hx146_1 := bc_ HB.out hx146_1
       replace hx146_2 := bc_ HB.out hx146_2
       replace hx146_3 := bc_ HB.out hx146_3
       have HR146_1 := mkA hi146_1
       have HC146_1 := mkA hl146_1
       clear hi146_1 hl146_1
       replace p146 := eq_true p146
       replace q146 := eq_true q146
       have ea_ := Option.some.inj (hx138_1.symm.trans hx146_1)
       injection ea_ with ea_ en_ ec_
       subst ea_
       subst ec_
       clear en_
       have p147 : 0 ≤ (x3_2 : Int) := dt_
       have q147 : x3_2 < (((rd_T53 l0 0).f1).length : Int) := dt_
       obtain ⟨ad147, e147, hx147_0, hx147_1⟩ := at_T105 HR146_1.out x3_2 p147 q147
       have hw147_1 := hx147_1
       have hw147_0 := hx147_0
       obtain rfl : ad139 = ad147 := (by injection e147)
       replace hx147_0 := bc_ HB.out hx147_0
       replace hx147_1 := bc_ HB.out hx147_1
       replace p147 := eq_true p147
       replace q147 := eq_true q147
       refine start_ (n := 45) (S := fun w' => w'.cell? ad130 = some (.string ((rd_T53 l0 0).f0)) ∧ w'.cell? ⟨ad130.block, ad130.off + 1, none⟩ = some (.slice (some ad139) ((rd_T53 l0 0).f1).length c138_1) ∧ w'.cell? ⟨ad130.block, ad130.off + 2, none⟩ = some (.int .i64 ((rd_T53 l0 0).f2)) ∧ w'.cell? ⟨ad130.block, ad130.off + 3, none⟩ = some (.bool ((rd_T53 l0 0).f3)) ∧ w'.cell? (ad139.add ((x3_2).toNat * 2)) = some (.int .i64 ((rd_T105 ((rd_T53 l0 0).f1) x3_2).f0)) ∧ w'.cell? ⟨(ad139.add ((x3_2).toNat * 2)).block, (ad139.add ((x3_2).toNat * 2)).off + 1, none⟩ = some (.int .i64 ((rd_T105 ((rd_T53 l0 0).f1) x3_2).f1)) ∧ w'.cell? ad130 = some (.string ((rd_T53 l0 0).f0)) ∧ w'.cell? ⟨ad130.block, ad130.off + 1, none⟩ = some (.slice (some ad139) ((rd_T53 l0 0).f1).length c138_1) ∧ w'.cell? ⟨ad130.block, ad130.off + 2, none⟩ = some (.int .i64 ((rd_T53 l0 0).f2)) ∧ w'.cell? ⟨ad130.block, ad130.off + 3, none⟩ = some (.bool ((rd_T53 l0 0).f3)) ∧ w'.cell? (ad139.add ((x3_2).toNat * 2)) = some (.int .i64 ((rd_T105 ((rd_T53 l0 0).f1) x3_2).f0)) ∧ w'.cell? ⟨(ad139.add ((x3_2).toNat * 2)).block, (ad139.add ((x3_2).toNat * 2)).off + 1, none⟩ = some (.int .i64 ((rd_T105 ((rd_T53 l0 0).f1) x3_2).f1)) ∧ w'.cell? ad130 = some (.string ((rd_T53 l0 0).f0)) ∧ w'.cell? ⟨ad130.block, ad130.off + 1, none⟩ = some (.slice (some ad139) ((rd_T53 l0 0).f1).length c138_1) ∧ w'.cell? ⟨ad130.block, ad130.off + 2, none⟩ = some (.int .i64 ((rd_T53 l0 0).f2)) ∧ w'.cell? ⟨ad130.block, ad130.off + 3, none⟩ = some (.bool ((rd_T53 l0 0).f3)) ∧ w'.cell? (ad139.add (((ji18)).toNat * 2)) = some (.int .i64 ((rd_T105 ((rd_T53 l0 0).f1) (ji18)).f0)) ∧ w'.cell? ⟨(ad139.add (((ji18)).toNat * 2)).block, (ad139.add (((ji18)).toNat * 2)).off + 1, none⟩ = some (.int .i64 ((rd_T105 ((rd_T53 l0 0).f1) (ji18)).f1)) ∧ w'.cell? ad130 = some (.string ((rd_T53 l0 0).f0)) ∧ w'.cell? ⟨ad130.block, ad130.off + 1, none⟩ = some (.slice (some ad139) ((rd_T53 l0 0).f1).length c138_1) ∧ w'.cell? ⟨ad130.block, ad130.off + 2, none⟩ = some (.int .i64 ((rd_T53 l0 0).f2)) ∧ w'.cell? ⟨ad130.block, ad130.off + 3, none⟩ = some (.bool ((rd_T53 l0 0).f3)) ∧ w'.cell? (ad139.add ((x3_2).toNat * 2)) = some (.int .i64 ((rd_T105 ((rd_T53 l0 0).f1) x3_2).f0)) ∧ w'.cell? ⟨(ad139.add ((x3_2).toNat * 2)).block, (ad139.add ((x3_2).toNat * 2)).off + 1, none⟩ = some (.int .i64 ((rd_T105 ((rd_T53 l0 0).f1) x3_2).f1))) (ds := []) spec_l19Piece.d0 (by kernel_rfl) rfl rfl ⟨(bc_ HB.out hw138_0 :), (bc_ HB.out hw138_1 :), (bc_ HB.out hw138_2 :), (bc_ HB.out hw138_3 :), (bc_ HB.out hw139_0 :), (bc_ HB.out hw139_1 :), (bc_ HB.out hw141_0 :), (bc_ HB.out hw141_1 :), (bc_ HB.out hw141_2 :), (bc_ HB.out hw141_3 :), (bc_ HB.out hw142_0 :), (bc_ HB.out hw142_1 :), (bc_ HB.out hw144_0 :), (bc_ HB.out hw144_1 :), (bc_ HB.out hw144_2 :), (bc_ HB.out hw144_3 :), (bc_ HB.out hw145_0 :), (bc_ HB.out hw145_1 :), (bc_ HB.out hw146_0 :), (bc_ HB.out hw146_1 :), (bc_ HB.out hw146_2 :), (bc_ HB.out hw146_3 :), (bc_ HB.out hw147_0 :), (bc_ HB.out hw147_1 :)⟩ (fun hHeld => ?_); refine with_tabW spec_l19Piece.tab6 spec_l19Piece.bits6 (fun HT_ HW_ => ?_)
       generalize wr.drew = w23 at HB HR138_1 HR141_1 HR144_1 HR146_1 hx138_0 hx138_1 hx138_2 hx138_3 hx139_0 hx139_1 hx141_0 hx141_1 hx141_2 hx141_3 hx142_0 hx142_1 hx144_0 hx144_1 hx144_2 hx144_3 hx145_0 hx145_1 hx146_0 hx146_1 hx146_2 hx146_3 hx147_0 hx147_1 hHeld ⊢
       refine p1_ HT_.out 0 45 spec_l19Piece.d1 ?_
       refine p1_ HT_.out 1 46 spec_l19Piece.d2 ?_
       refine p1_ HT_.out 2 47 spec_l19Piece.d3 ?_
       refine p1_ HT_.out 4 49 spec_l19Piece.d4 ?_
       refine take_ (i := 3) (N := some 48) (v := ?_) (a' := ?_) spec_l19Piece.d5 rfl rfl (take_ofW HT_.out HW_.out (by kernel_rfl)) (fun _ _ _ h => h) (Or.inl ⟨by rfl, ?_⟩) hHeld ?_ ?_
       rotate_left
       · rintro w' ⟨s0, s1, s2, s3, s4, s5, s6, s7, s8, s9, s10, s11, s12, s13, s14, s15, s16, s17, s18, s19, s20, s21, s22, s23⟩
         go_simp
         with_reducible rfl
       rotate_left
       · simp only [Act.put, sA, sB, sC, i64_w, i32_w]
         rfl
       refine p1_ HT_.out 5 50 spec_l19Piece.d6 ?_
       refine p1_ HT_.out 6 51 spec_l19Piece.d7 ?_
       refine take_ (i := 7) (N := some 52) (v := ?_) (a' := ?_) spec_l19Piece.d8 rfl rfl (take_ofW HT_.out HW_.out (by kernel_rfl)) (fun _ _ _ h => h) (Or.inl ⟨by rfl, ?_⟩) hHeld ?_ ?_
       rotate_left
       · rintro w' ⟨s0, s1, s2, s3, s4, s5, s6, s7, s8, s9, s10, s11, s12, s13, s14, s15, s16, s17, s18, s19, s20, s21, s22, s23⟩
         go_simp
         with_reducible rfl
       rotate_left
       · simp only [Act.put, sA, sB, sC, i64_w, i32_w]
         rfl
       refine one_ (i := 8) (N := some 53) spec_l19Piece.d9 rfl rfl (one_of HT_.out (by kernel_rfl)) (by decide) (fun K hK => ?_)
       refine goes_ Try.func60 (by kernel_rfl) rfl #[.int .i64 ((rd_T105 ((rd_T53 l0 0).f1) x3_2).f0), .int .i64 0, .int .i64 5] (by rfl) rfl rfl (by (try simp only [List.map_toArray, List.map_cons, List.map_nil]); first | done | rfl | (simp only [List.length_drop, List.length_take]; rfl)) ?_
       with_reducible refine (spec_l00In.calls ((rd_T105 ((rd_T53 l0 0).f1) x3_2).f0) 0 5 true _ A13.out).mono ?_
       rintro e w' ⟨rfl, ⟨nd, rfl⟩⟩
       refine ⟨_, rfl, ?_⟩
       refine hK.out _ _ ⟨(bc_ HB.out hw138_0 :), (bc_ HB.out hw138_1 :), (bc_ HB.out hw138_2 :), (bc_ HB.out hw138_3 :), (bc_ HB.out hw139_0 :), (bc_ HB.out hw139_1 :), (bc_ HB.out hw141_0 :), (bc_ HB.out hw141_1 :), (bc_ HB.out hw141_2 :), (bc_ HB.out hw141_3 :), (bc_ HB.out hw142_0 :), (bc_ HB.out hw142_1 :), (bc_ HB.out hw144_0 :), (bc_ HB.out hw144_1 :), (bc_ HB.out hw144_2 :), (bc_ HB.out hw144_3 :), (bc_ HB.out hw145_0 :), (bc_ HB.out hw145_1 :), (bc_ HB.out hw146_0 :), (bc_ HB.out hw146_1 :), (bc_ HB.out hw146_2 :), (bc_ HB.out hw146_3 :), (bc_ HB.out hw147_0 :), (bc_ HB.out hw147_1 :)⟩ (fun hHeld => ?_)
       clear hK K
       refine norm_ (a' := ?_) ?_ ?_
       rotate_left
       · show Act.put _ (some 53) _ = _
         simp only [Act.put, sA, sB, sC, i64_w, i32_w]
         rfl
       refine p1_ HT_.out 9 54 spec_l19Piece.d10 ?_
       refine p1_ HT_.out 10 55 spec_l19Piece.d11 ?_
       refine p1_ HT_.out 11 56 spec_l19Piece.d12 ?_
       refine p1_ HT_.out 12 57 spec_l19Piece.d13 ?_
       refine p1_ HT_.out 13 58 spec_l19Piece.d14 ?_
       refine p1_ HT_.out 15 60 spec_l19Piece.d15 ?_
       refine take_ (i := 14) (N := some 59) (v := ?_) (a' := ?_) spec_l19Piece.d16 rfl rfl (take_ofW HT_.out HW_.out (by kernel_rfl)) (fun _ _ _ h => h) (Or.inl ⟨by rfl, ?_⟩) hHeld ?_ ?_
       rotate_left
       · rintro w' ⟨s0, s1, s2, s3, s4, s5, s6, s7, s8, s9, s10, s11, s12, s13, s14, s15, s16, s17, s18, s19, s20, s21, s22, s23⟩
         go_simp
         with_reducible rfl
       rotate_left
       · simp only [Act.put, sA, sB, sC, i64_w, i32_w]
         rfl
       refine p1_ HT_.out 16 61 spec_l19Piece.d17 ?_
       refine p1_ HT_.out 17 62 spec_l19Piece.d18 ?_
       refine take_ (i := 18) (N := some 63) (v := ?_) (a' := ?_) spec_l19Piece.d19 rfl rfl (take_ofW HT_.out HW_.out (by kernel_rfl)) (fun _ _ _ h => h) (Or.inl ⟨by rfl, ?_⟩) hHeld ?_ ?_
       rotate_left
       · rintro w' ⟨s0, s1, s2, s3, s4, s5, s6, s7, s8, s9, s10, s11, s12, s13, s14, s15, s16, s17, s18, s19, s20, s21, s22, s23⟩
         go_simp
         with_reducible rfl
       rotate_left
       · simp only [Act.put, sA, sB, sC, i64_w, i32_w]
         rfl
       refine one_ (i := 19) (N := some 64) spec_l19Piece.d20 rfl rfl (one_of HT_.out (by kernel_rfl)) (by decide) (fun K hK => ?_)
       refine goes_ Try.func60 (by kernel_rfl) rfl #[.int .i64 ((rd_T105 ((rd_T53 l0 0).f1) x3_2).f1), .int .i64 0, .int .i64 5] (by rfl) rfl rfl (by (try simp only [List.map_toArray, List.map_cons, List.map_nil]); first | done | rfl | (simp only [List.length_drop, List.length_take]; rfl)) ?_
       with_reducible refine (spec_l00In.calls ((rd_T105 ((rd_T53 l0 0).f1) x3_2).f1) 0 5 true _ A15.out).mono ?_
       rintro e w' ⟨rfl, ⟨nd, rfl⟩⟩
       refine ⟨_, rfl, ?_⟩
       refine hK.out _ _ ⟨(bc_ HB.out hw138_0 :), (bc_ HB.out hw138_1 :), (bc_ HB.out hw138_2 :), (bc_ HB.out hw138_3 :), (bc_ HB.out hw139_0 :), (bc_ HB.out hw139_1 :), (bc_ HB.out hw141_0 :), (bc_ HB.out hw141_1 :), (bc_ HB.out hw141_2 :), (bc_ HB.out hw141_3 :), (bc_ HB.out hw142_0 :), (bc_ HB.out hw142_1 :), (bc_ HB.out hw144_0 :), (bc_ HB.out hw144_1 :), (bc_ HB.out hw144_2 :), (bc_ HB.out hw144_3 :), (bc_ HB.out hw145_0 :), (bc_ HB.out hw145_1 :), (bc_ HB.out hw146_0 :), (bc_ HB.out hw146_1 :), (bc_ HB.out hw146_2 :), (bc_ HB.out hw146_3 :), (bc_ HB.out hw147_0 :), (bc_ HB.out hw147_1 :)⟩ (fun hHeld => ?_)
       clear hK K
       refine norm_ (a' := ?_) ?_ ?_
       rotate_left
       · show Act.put _ (some 64) _ = _
         simp only [Act.put, sA, sB, sC, i64_w, i32_w]
         rfl
       refine p1_ HT_.out 20 65 spec_l19Piece.d21 ?_
       refine p1_ HT_.out 21 66 spec_l19Piece.d22 ?_
       refine p1_ HT_.out 22 67 spec_l19Piece.d23 ?_
       refine p1_ HT_.out 23 68 spec_l19Piece.d24 ?_
       refine p1_ HT_.out 24 69 spec_l19Piece.d25 ?_
       refine p1_ HT_.out 25 70 spec_l19Piece.d26 ?_
       refine p1_ HT_.out 26 71 spec_l19Piece.d27 ?_
       refine p1_ HT_.out 27 72 spec_l19Piece.d28 ?_
       refine p1_ HT_.out 28 73 spec_l19Piece.d29 ?_
       refine p1_ HT_.out 30 75 spec_l19Piece.d30 ?_
       refine p1_ HT_.out 31 76 spec_l19Piece.d31 ?_
       refine p1_ HT_.out 34 79 spec_l19Piece.d32 ?_
       refine p1_ HT_.out 35 80 spec_l19Piece.d33 ?_
       refine p1_ HT_.out 36 81 spec_l19Piece.d34 ?_
       refine p1_ HT_.out 38 83 spec_l19Piece.d35 ?_
       refine take_ (i := 29) (N := some 74) (v := ?_) (a' := ?_) spec_l19Piece.d36 rfl rfl (take_ofW HT_.out HW_.out (by kernel_rfl)) (fun _ _ _ h => h) (Or.inl ⟨by rfl, ?_⟩) hHeld ?_ ?_
       rotate_left
       · rintro w' ⟨s0, s1, s2, s3, s4, s5, s6, s7, s8, s9, s10, s11, s12, s13, s14, s15, s16, s17, s18, s19, s20, s21, s22, s23⟩
         go_simp
         with_reducible rfl
       rotate_left
       · simp only [Act.put, sA, sB, sC, i64_w, i32_w]
         rfl
       refine p1_ HT_.out 32 77 spec_l19Piece.d37 ?_
       refine take_ (i := 33) (N := some 78) (v := ?_) (a' := ?_) spec_l19Piece.d38 rfl rfl (take_ofW HT_.out HW_.out (by kernel_rfl)) (fun _ _ _ h => h) (Or.inl ⟨by rfl, ?_⟩) hHeld ?_ ?_
       rotate_left
       · rintro w' ⟨s0, s1, s2, s3, s4, s5, s6, s7, s8, s9, s10, s11, s12, s13, s14, s15, s16, s17, s18, s19, s20, s21, s22, s23⟩
         go_simp
         with_reducible rfl
       rotate_left
       · simp only [Act.put, sA, sB, sC, i64_w, i32_w]
         rfl
       refine take_ (i := 37) (N := some 82) (v := ?_) (a' := ?_) spec_l19Piece.d39 rfl rfl (take_ofW HT_.out HW_.out (by kernel_rfl)) (fun _ _ _ h => h) (Or.inl ⟨by rfl, ?_⟩) hHeld ?_ ?_
       rotate_left
       · rintro w' ⟨s0, s1, s2, s3, s4, s5, s6, s7, s8, s9, s10, s11, s12, s13, s14, s15, s16, s17, s18, s19, s20, s21, s22, s23⟩
         go_simp
         with_reducible rfl
       rotate_left
       · simp only [Act.put, sA, sB, sC, i64_w, i32_w]
         rfl
       refine p1_ HT_.out 39 84 spec_l19Piece.d40 ?_
       refine take_ (i := 40) (N := some 85) (v := ?_) (a' := ?_) spec_l19Piece.d41 rfl rfl (take_ofW HT_.out HW_.out (by kernel_rfl)) (fun _ _ _ h => h) (Or.inl ⟨by rfl, ?_⟩) hHeld ?_ ?_
       rotate_left
       · rintro w' ⟨s0, s1, s2, s3, s4, s5, s6, s7, s8, s9, s10, s11, s12, s13, s14, s15, s16, s17, s18, s19, s20, s21, s22, s23⟩
         go_simp
         with_reducible rfl
       rotate_left
       · simp only [Act.put, sA, sB, sC, i64_w, i32_w]
         rfl
       refine one_ (i := 41) (N := some 86) spec_l19Piece.d42 rfl rfl (one_of HT_.out (by kernel_rfl)) (by decide) (fun K hK => ?_)
       refine goes_ Try.func92 (by kernel_rfl) rfl #[.agg #[.int .i64 ((rd_T105 ((rd_T53 l0 0).f1) (ji18)).f0), .int .i64 ((rd_T105 ((rd_T53 l0 0).f1) (ji18)).f1)], .agg #[.int .i64 ((rd_T105 ((rd_T53 l0 0).f1) x3_2).f0), .int .i64 ((rd_T105 ((rd_T53 l0 0).f1) x3_2).f1)]] (by rfl) rfl rfl (by (try simp only [List.map_toArray, List.map_cons, List.map_nil]); first | done | (simp only [hji18]; rfl) | rfl | (simp only [List.length_drop, List.length_take]; rfl)) ?_
       with_reducible refine (spec_l19Before.calls ((rd_T105 ((rd_T53 l0 0).f1) (ji18)).f0) ((rd_T105 ((rd_T53 l0 0).f1) (ji18)).f1) ((rd_T105 ((rd_T53 l0 0).f1) x3_2).f0) ((rd_T105 ((rd_T53 l0 0).f1) x3_2).f1) true _ A21.out).mono ?_
       rintro e w24 ⟨rfl, hb⟩
       refine ⟨_, rfl, ?_⟩
       have n0_ := mkA (below_step (bs0_ HB.out) hb)
       clear HB
       have HB := n0_
       clear n0_
       (try clear hb)
       (try clear hb2)
       (try clear hk)
       (try clear hi)
       refine hK.out _ _ ⟨(bc_ HB.out hw138_0 :), (bc_ HB.out hw138_1 :), (bc_ HB.out hw138_2 :), (bc_ HB.out hw138_3 :), (bc_ HB.out hw139_0 :), (bc_ HB.out hw139_1 :), (bc_ HB.out hw141_0 :), (bc_ HB.out hw141_1 :), (bc_ HB.out hw141_2 :), (bc_ HB.out hw141_3 :), (bc_ HB.out hw142_0 :), (bc_ HB.out hw142_1 :), (bc_ HB.out hw144_0 :), (bc_ HB.out hw144_1 :), (bc_ HB.out hw144_2 :), (bc_ HB.out hw144_3 :), (bc_ HB.out hw145_0 :), (bc_ HB.out hw145_1 :), (bc_ HB.out hw146_0 :), (bc_ HB.out hw146_1 :), (bc_ HB.out hw146_2 :), (bc_ HB.out hw146_3 :), (bc_ HB.out hw147_0 :), (bc_ HB.out hw147_1 :)⟩ (fun hHeld => ?_)
       clear hK K
       refine norm_ (a' := ?_) ?_ ?_
       rotate_left
       · show Act.put _ (some 86) _ = _
         simp only [Act.put, sA, sB, sC, i64_w, i32_w]
         rfl
       refine p1_ HT_.out 42 87 spec_l19Piece.d43 ?_
       refine p1_ HT_.out 43 88 spec_l19Piece.d44 ?_
       refine p1_ HT_.out 44 89 spec_l19Piece.d45 ?_
       refine done_ (done_of HT_.out (by kernel_rfl)) ?_
       try go_wp2
       go_roundg k2
       case measure => have := HJ1.out; have := HK2.out; omega
       case rel => exact ⟨(wrap64 (x3_2 + 1)), (by first | rfl | (simp; done) | (simp [*]; done) | (simp [i64_w, i32_w]; done)), H', ⟨by have := HJ1.out; have := HK2.out; omega⟩, ⟨by repeat (first | (with_reducible first | exact HB.out | apply below_alloc | apply pw_below_drewN | apply below_drew1) | exact HB.out)⟩⟩
end Go.Proofs.Ytakagkflgkoiiaa.GFnExactValidPieces
