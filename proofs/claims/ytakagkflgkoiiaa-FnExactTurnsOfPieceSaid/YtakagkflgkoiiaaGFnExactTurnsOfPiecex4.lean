-- Written by the session's own program (gen.py) out of the translation's print. Lean checks it.
import Derived.Test.YtakagkflgkoiiaaGFnExactTurnsOfPiecex0
import Derived.Test.YtakagkflgkoiiaaGFnExactTurnsOfPiecex2
import Derived.Test.YtakagkflgkoiiaaGFnExactTurnsOfPiecex3
namespace Go.Proofs.Ytakagkflgkoiiaa.GFnExactTurnsOfPiece
open Go.RowKit Go.Proofs.YtakagkflgkoiiaaW.PrintWords Go.Proofs.YtakagkflgkoiiaaW.PrintLast Go.Proofs.YtakagkflgkoiiaaW.PrintMore
attribute [local go_sem] max2_int min2_int max_two min_two max_three min_three max_four min_four   -- for this text's walks alone
set_option linter.unusedVariables false
set_option linter.unusedSimpArgs false

/-! ### spec_l19Piece: function 72 -/
mutual
def spec_l19Piece.j0 : Nat → Bool → List (S53) → Option (Bool)
  | 0, _, _ => none
  | k + 1, x35, x960 => if x35 = true then (some false) else (spec_l19Piece.l0 k 0 x960)
def spec_l19Piece.l0 : Nat → Int → List (S53) → Option (Bool)
  | 0, _, _ => none
  | k + 1, x3, x960 => if 0 < (x960.length : Int) then (if x3 < (((rd_T53 x960 0).f1).length : Int) then (if 0 ≤ x3 then ((spec_l00In.f ((rd_T105 ((rd_T53 x960 0).f1) x3).f0) 0 5).bind fun t138 => (if t138 = true then ((spec_l00In.f ((rd_T105 ((rd_T53 x960 0).f1) x3).f1) 0 5).bind fun t141 => (if t141 = true then (if x3 > 0 then (if 0 ≤ (wrap64 (x3 - 1)) then (if (wrap64 (x3 - 1)) < (((rd_T53 x960 0).f1).length : Int) then ((spec_l19Before.f ((rd_T105 ((rd_T53 x960 0).f1) (wrap64 (x3 - 1))).f0) ((rd_T105 ((rd_T53 x960 0).f1) (wrap64 (x3 - 1))).f1) ((rd_T105 ((rd_T53 x960 0).f1) x3).f0) ((rd_T105 ((rd_T53 x960 0).f1) x3).f1)).bind fun t146 => (if t146 = true then (spec_l19Piece.l0 k (wrap64 (x3 + 1)) x960) else (some false))) else (none)) else (none)) else (spec_l19Piece.l0 k (wrap64 (x3 + 1)) x960)) else (some false))) else (some false))) else (none)) else ((spec_l03Bounds.f k ((rd_T53 x960 0).f1)).bind fun bt130 => (if bt130.1 = 0 then (some (bt130.2.1 == 0)) else (some false)))) else (none)
end
def spec_l19Piece.f (k : Nat) (l0 : List (S53)) : Option (Bool) := if 0 < (l0.length : Int) then ((spec_l01Name.f k ((rd_T53 l0 0).f0)).bind fun t123 => (if t123 = true then (if (((rd_T53 l0 0).f1).length : Int) < 1 then (spec_l19Piece.j0 k true l0) else (if (((rd_T53 l0 0).f1).length : Int) > 6 then (spec_l19Piece.j0 k true l0) else ((spec_l00In.f ((rd_T53 l0 0).f2) 0 24).bind fun t127 => (spec_l19Piece.j0 k (!t127) l0)))) else (spec_l19Piece.j0 k true l0))) else (none)
def spec_l19Piece.T6 : Bool × List (List Nat × List Nat) := (true, [([], []), ([0], [0]), ([1], [1]), ([2], [2]), ([], []), ([3, 4], [3, 4]), ([5], [5]), ([6], [6]), ([7], [7]), ([8], [8]), ([9, 8], [9]), ([10], [10]), ([11, 10], [10, 11]), ([12, 10], [10, 12]), ([13, 10], [10, 13]), ([10], [10]), ([14, 15, 10], [10, 14, 15]), ([16, 10], [10, 16]), ([17, 10], [10, 17]), ([18, 10, 10], [10, 18]), ([19, 10], [10, 19]), ([10, 20], [10, 20]), ([21, 19], [21]), ([22], [22]), ([23, 22], [22, 23]), ([24, 22, 22], [22, 24]), ([25], [25]), ([26, 25], [25, 26]), ([27, 25], [25, 27]), ([28, 25], [25, 28]), ([25], [25]), ([30, 25], [25, 30]), ([29, 31, 25], [25, 29, 31]), ([32, 25], [25, 32]), ([25], [25]), ([34, 25], [25, 34]), ([35, 25], [25, 35]), ([36, 25], [25, 36]), ([25], [25]), ([37, 38, 25], [25, 37, 38]), ([39, 25], [25, 39]), ([33, 40, 25, 25], [25, 33, 40]), ([41, 25], [25, 41]), ([25, 42, 22], [22, 25, 42]), ([22, 43], [22, 43])])
def spec_l19Piece.B6 : List Nat := [0, 1, 3, 7, 0, 31, 63, 127, 255, 511, 1023, 2047, 4095, 8191, 16383, 2047, 65535, 131071, 262143, 524287, 1048575, 2097151, 4194303, 8388607, 16777215, 33554431, 67108863, 134217727, 268435455, 536870911, 67108863, 1140850687, 4294967295, 8589934591, 67108863, 17246978047, 51606716415, 120326193151, 67108863, 532643053567, 1082398867455, 2199023255551, 4398046511103, 8796093022207, 17592186044415]
theorem spec_l19Piece.tab6 : rtab .any (opsOf Try.f72 6) = spec_l19Piece.T6 := by kernel_rfl
theorem spec_l19Piece.bits6 : waitsOk spec_l19Piece.T6.2 spec_l19Piece.B6 = true := by kernel_rfl
open List renaming setIfInBounds_toArray → sA, set_cons_zero → sB, set_cons_succ → sC
open Go.Proofs.YtakagkflgkoiiaaW.PrintWords.Aside0 renaming mk → mkA
open Go.Proofs.YtakagkflgkoiiaaX (dt_ bc_ p0_ p1_ bl_ cb_ bs0_ bs1_ bs2_ bs3_ bs4_ bs5_ bs6_ bs7_ bs8_ bs9_ bs10_ bs11_ bs12_)
abbrev spec_l19Piece.d0 : Array Bool := #[false, false, false, false, false, false, false, false, false, false, false, false, false, false, false, false, false, false, false, false, false, false, false, false, false, false, false, false, false, false, false, false, false, false, false, false, false, false, false, false, false, false, false, false, false]
abbrev spec_l19Piece.d1 : Array Bool := #[true, false, false, false, false, false, false, false, false, false, false, false, false, false, false, false, false, false, false, false, false, false, false, false, false, false, false, false, false, false, false, false, false, false, false, false, false, false, false, false, false, false, false, false, false]
abbrev spec_l19Piece.d2 : Array Bool := #[true, true, false, false, false, false, false, false, false, false, false, false, false, false, false, false, false, false, false, false, false, false, false, false, false, false, false, false, false, false, false, false, false, false, false, false, false, false, false, false, false, false, false, false, false]
abbrev spec_l19Piece.d3 : Array Bool := #[true, true, true, false, false, false, false, false, false, false, false, false, false, false, false, false, false, false, false, false, false, false, false, false, false, false, false, false, false, false, false, false, false, false, false, false, false, false, false, false, false, false, false, false, false]
abbrev spec_l19Piece.d4 : Array Bool := #[true, true, true, false, true, false, false, false, false, false, false, false, false, false, false, false, false, false, false, false, false, false, false, false, false, false, false, false, false, false, false, false, false, false, false, false, false, false, false, false, false, false, false, false, false]
abbrev spec_l19Piece.d5 : Array Bool := #[true, true, true, true, true, false, false, false, false, false, false, false, false, false, false, false, false, false, false, false, false, false, false, false, false, false, false, false, false, false, false, false, false, false, false, false, false, false, false, false, false, false, false, false, false]
abbrev spec_l19Piece.d6 : Array Bool := #[true, true, true, true, true, true, false, false, false, false, false, false, false, false, false, false, false, false, false, false, false, false, false, false, false, false, false, false, false, false, false, false, false, false, false, false, false, false, false, false, false, false, false, false, false]
abbrev spec_l19Piece.d7 : Array Bool := #[true, true, true, true, true, true, true, false, false, false, false, false, false, false, false, false, false, false, false, false, false, false, false, false, false, false, false, false, false, false, false, false, false, false, false, false, false, false, false, false, false, false, false, false, false]
abbrev spec_l19Piece.d8 : Array Bool := #[true, true, true, true, true, true, true, true, false, false, false, false, false, false, false, false, false, false, false, false, false, false, false, false, false, false, false, false, false, false, false, false, false, false, false, false, false, false, false, false, false, false, false, false, false]
abbrev spec_l19Piece.d9 : Array Bool := #[true, true, true, true, true, true, true, true, true, false, false, false, false, false, false, false, false, false, false, false, false, false, false, false, false, false, false, false, false, false, false, false, false, false, false, false, false, false, false, false, false, false, false, false, false]
abbrev spec_l19Piece.d10 : Array Bool := #[true, true, true, true, true, true, true, true, true, true, false, false, false, false, false, false, false, false, false, false, false, false, false, false, false, false, false, false, false, false, false, false, false, false, false, false, false, false, false, false, false, false, false, false, false]
abbrev spec_l19Piece.d11 : Array Bool := #[true, true, true, true, true, true, true, true, true, true, true, false, false, false, false, false, false, false, false, false, false, false, false, false, false, false, false, false, false, false, false, false, false, false, false, false, false, false, false, false, false, false, false, false, false]
abbrev spec_l19Piece.d12 : Array Bool := #[true, true, true, true, true, true, true, true, true, true, true, true, false, false, false, false, false, false, false, false, false, false, false, false, false, false, false, false, false, false, false, false, false, false, false, false, false, false, false, false, false, false, false, false, false]
abbrev spec_l19Piece.d13 : Array Bool := #[true, true, true, true, true, true, true, true, true, true, true, true, true, false, false, false, false, false, false, false, false, false, false, false, false, false, false, false, false, false, false, false, false, false, false, false, false, false, false, false, false, false, false, false, false]
abbrev spec_l19Piece.d14 : Array Bool := #[true, true, true, true, true, true, true, true, true, true, true, true, true, true, false, false, false, false, false, false, false, false, false, false, false, false, false, false, false, false, false, false, false, false, false, false, false, false, false, false, false, false, false, false, false]
abbrev spec_l19Piece.d15 : Array Bool := #[true, true, true, true, true, true, true, true, true, true, true, true, true, true, false, true, false, false, false, false, false, false, false, false, false, false, false, false, false, false, false, false, false, false, false, false, false, false, false, false, false, false, false, false, false]
abbrev spec_l19Piece.d16 : Array Bool := #[true, true, true, true, true, true, true, true, true, true, true, true, true, true, true, true, false, false, false, false, false, false, false, false, false, false, false, false, false, false, false, false, false, false, false, false, false, false, false, false, false, false, false, false, false]
abbrev spec_l19Piece.d17 : Array Bool := #[true, true, true, true, true, true, true, true, true, true, true, true, true, true, true, true, true, false, false, false, false, false, false, false, false, false, false, false, false, false, false, false, false, false, false, false, false, false, false, false, false, false, false, false, false]
abbrev spec_l19Piece.d18 : Array Bool := #[true, true, true, true, true, true, true, true, true, true, true, true, true, true, true, true, true, true, false, false, false, false, false, false, false, false, false, false, false, false, false, false, false, false, false, false, false, false, false, false, false, false, false, false, false]
abbrev spec_l19Piece.d19 : Array Bool := #[true, true, true, true, true, true, true, true, true, true, true, true, true, true, true, true, true, true, true, false, false, false, false, false, false, false, false, false, false, false, false, false, false, false, false, false, false, false, false, false, false, false, false, false, false]
abbrev spec_l19Piece.d20 : Array Bool := #[true, true, true, true, true, true, true, true, true, true, true, true, true, true, true, true, true, true, true, true, false, false, false, false, false, false, false, false, false, false, false, false, false, false, false, false, false, false, false, false, false, false, false, false, false]
abbrev spec_l19Piece.d21 : Array Bool := #[true, true, true, true, true, true, true, true, true, true, true, true, true, true, true, true, true, true, true, true, true, false, false, false, false, false, false, false, false, false, false, false, false, false, false, false, false, false, false, false, false, false, false, false, false]
abbrev spec_l19Piece.d22 : Array Bool := #[true, true, true, true, true, true, true, true, true, true, true, true, true, true, true, true, true, true, true, true, true, true, false, false, false, false, false, false, false, false, false, false, false, false, false, false, false, false, false, false, false, false, false, false, false]
abbrev spec_l19Piece.d23 : Array Bool := #[true, true, true, true, true, true, true, true, true, true, true, true, true, true, true, true, true, true, true, true, true, true, true, false, false, false, false, false, false, false, false, false, false, false, false, false, false, false, false, false, false, false, false, false, false]
abbrev spec_l19Piece.d24 : Array Bool := #[true, true, true, true, true, true, true, true, true, true, true, true, true, true, true, true, true, true, true, true, true, true, true, true, false, false, false, false, false, false, false, false, false, false, false, false, false, false, false, false, false, false, false, false, false]
abbrev spec_l19Piece.d25 : Array Bool := #[true, true, true, true, true, true, true, true, true, true, true, true, true, true, true, true, true, true, true, true, true, true, true, true, true, false, false, false, false, false, false, false, false, false, false, false, false, false, false, false, false, false, false, false, false]
abbrev spec_l19Piece.d26 : Array Bool := #[true, true, true, true, true, true, true, true, true, true, true, true, true, true, true, true, true, true, true, true, true, true, true, true, true, true, false, false, false, false, false, false, false, false, false, false, false, false, false, false, false, false, false, false, false]
abbrev spec_l19Piece.d27 : Array Bool := #[true, true, true, true, true, true, true, true, true, true, true, true, true, true, true, true, true, true, true, true, true, true, true, true, true, true, true, false, false, false, false, false, false, false, false, false, false, false, false, false, false, false, false, false, false]
abbrev spec_l19Piece.d28 : Array Bool := #[true, true, true, true, true, true, true, true, true, true, true, true, true, true, true, true, true, true, true, true, true, true, true, true, true, true, true, true, false, false, false, false, false, false, false, false, false, false, false, false, false, false, false, false, false]
abbrev spec_l19Piece.d29 : Array Bool := #[true, true, true, true, true, true, true, true, true, true, true, true, true, true, true, true, true, true, true, true, true, true, true, true, true, true, true, true, true, false, false, false, false, false, false, false, false, false, false, false, false, false, false, false, false]
abbrev spec_l19Piece.d30 : Array Bool := #[true, true, true, true, true, true, true, true, true, true, true, true, true, true, true, true, true, true, true, true, true, true, true, true, true, true, true, true, true, false, true, false, false, false, false, false, false, false, false, false, false, false, false, false, false]
abbrev spec_l19Piece.d31 : Array Bool := #[true, true, true, true, true, true, true, true, true, true, true, true, true, true, true, true, true, true, true, true, true, true, true, true, true, true, true, true, true, false, true, true, false, false, false, false, false, false, false, false, false, false, false, false, false]
abbrev spec_l19Piece.d32 : Array Bool := #[true, true, true, true, true, true, true, true, true, true, true, true, true, true, true, true, true, true, true, true, true, true, true, true, true, true, true, true, true, false, true, true, false, false, true, false, false, false, false, false, false, false, false, false, false]
abbrev spec_l19Piece.d33 : Array Bool := #[true, true, true, true, true, true, true, true, true, true, true, true, true, true, true, true, true, true, true, true, true, true, true, true, true, true, true, true, true, false, true, true, false, false, true, true, false, false, false, false, false, false, false, false, false]
abbrev spec_l19Piece.d34 : Array Bool := #[true, true, true, true, true, true, true, true, true, true, true, true, true, true, true, true, true, true, true, true, true, true, true, true, true, true, true, true, true, false, true, true, false, false, true, true, true, false, false, false, false, false, false, false, false]
abbrev spec_l19Piece.d35 : Array Bool := #[true, true, true, true, true, true, true, true, true, true, true, true, true, true, true, true, true, true, true, true, true, true, true, true, true, true, true, true, true, false, true, true, false, false, true, true, true, false, true, false, false, false, false, false, false]
abbrev spec_l19Piece.d36 : Array Bool := #[true, true, true, true, true, true, true, true, true, true, true, true, true, true, true, true, true, true, true, true, true, true, true, true, true, true, true, true, true, true, true, true, false, false, true, true, true, false, true, false, false, false, false, false, false]
abbrev spec_l19Piece.d37 : Array Bool := #[true, true, true, true, true, true, true, true, true, true, true, true, true, true, true, true, true, true, true, true, true, true, true, true, true, true, true, true, true, true, true, true, true, false, true, true, true, false, true, false, false, false, false, false, false]
abbrev spec_l19Piece.d38 : Array Bool := #[true, true, true, true, true, true, true, true, true, true, true, true, true, true, true, true, true, true, true, true, true, true, true, true, true, true, true, true, true, true, true, true, true, true, true, true, true, false, true, false, false, false, false, false, false]
abbrev spec_l19Piece.d39 : Array Bool := #[true, true, true, true, true, true, true, true, true, true, true, true, true, true, true, true, true, true, true, true, true, true, true, true, true, true, true, true, true, true, true, true, true, true, true, true, true, true, true, false, false, false, false, false, false]
abbrev spec_l19Piece.d40 : Array Bool := #[true, true, true, true, true, true, true, true, true, true, true, true, true, true, true, true, true, true, true, true, true, true, true, true, true, true, true, true, true, true, true, true, true, true, true, true, true, true, true, true, false, false, false, false, false]
abbrev spec_l19Piece.d41 : Array Bool := #[true, true, true, true, true, true, true, true, true, true, true, true, true, true, true, true, true, true, true, true, true, true, true, true, true, true, true, true, true, true, true, true, true, true, true, true, true, true, true, true, true, false, false, false, false]
abbrev spec_l19Piece.d42 : Array Bool := #[true, true, true, true, true, true, true, true, true, true, true, true, true, true, true, true, true, true, true, true, true, true, true, true, true, true, true, true, true, true, true, true, true, true, true, true, true, true, true, true, true, true, false, false, false]
abbrev spec_l19Piece.d43 : Array Bool := #[true, true, true, true, true, true, true, true, true, true, true, true, true, true, true, true, true, true, true, true, true, true, true, true, true, true, true, true, true, true, true, true, true, true, true, true, true, true, true, true, true, true, true, false, false]
abbrev spec_l19Piece.d44 : Array Bool := #[true, true, true, true, true, true, true, true, true, true, true, true, true, true, true, true, true, true, true, true, true, true, true, true, true, true, true, true, true, true, true, true, true, true, true, true, true, true, true, true, true, true, true, true, false]
abbrev spec_l19Piece.d45 : Array Bool := #[true, true, true, true, true, true, true, true, true, true, true, true, true, true, true, true, true, true, true, true, true, true, true, true, true, true, true, true, true, true, true, true, true, true, true, true, true, true, true, true, true, true, true, true, true]
abbrev spec_l19Piece.d46 : Array Bool := #[true, true, true, true, true, true, true, true, true, true, true, true, true, true, true, true, true, true, true, true, true, true, true, true, true, true, true, true, true, true, false, false, false, false, false, false, false, false, false, false, false, false, false, false, false]
abbrev spec_l19Piece.d47 : Array Bool := #[true, true, true, true, true, true, true, true, true, true, true, true, true, true, true, true, true, true, true, true, true, true, true, true, true, true, true, true, true, true, true, false, false, false, false, false, false, false, false, false, false, false, false, false, false]
abbrev spec_l19Piece.d48 : Array Bool := #[true, true, true, true, true, true, true, true, true, true, true, true, true, true, true, true, true, true, true, true, true, true, true, true, true, true, true, true, true, true, true, true, false, false, false, false, false, false, false, false, false, false, false, false, false]
abbrev spec_l19Piece.d49 : Array Bool := #[true, true, true, true, true, true, true, true, true, true, true, true, true, true, true, true, true, true, true, true, true, true, true, true, true, true, true, true, true, true, true, true, true, false, false, false, false, false, false, false, false, false, false, false, false]
abbrev spec_l19Piece.d50 : Array Bool := #[true, true, true, true, true, true, true, true, true, true, true, true, true, true, true, true, true, true, true, true, true, true, true, true, true, true, true, true, true, true, true, true, true, true, false, false, false, false, false, false, false, false, false, false, false]
abbrev spec_l19Piece.d51 : Array Bool := #[true, true, true, true, true, true, true, true, true, true, true, true, true, true, true, true, true, true, true, true, true, true, true, true, true, true, true, true, true, true, true, true, true, true, true, false, false, false, false, false, false, false, false, false, false]
abbrev spec_l19Piece.d52 : Array Bool := #[true, true, true, true, true, true, true, true, true, true, true, true, true, true, true, true, true, true, true, true, true, true, true, true, true, true, true, true, true, true, true, true, true, true, true, true, false, false, false, false, false, false, false, false, false]
abbrev spec_l19Piece.d53 : Array Bool := #[true, true, true, true, true, true, true, true, true, true, true, true, true, true, true, true, true, true, true, true, true, true, true, true, true, true, true, true, true, true, true, true, true, true, true, true, true, false, false, false, false, false, false, false, false]
abbrev spec_l19Piece.d54 : Array Bool := #[true, true, true, true, true, true, true, true, true, true, true, true, true, true, true, true, true, true, true, true, true, true, true, true, true, true, true, true, true, true, true, true, true, true, true, true, true, true, false, false, false, false, false, false, false]
abbrev spec_l19Piece.d55 : Array Bool := #[true, true, true, true, true, true, true, true, true, true, true, true, true, true, true, false, false, false, false, false, false, false, false, false, false, false, false, false, false, false, false, false, false, false, false, false, false, false, false, false, false, false, false, false, false]
set_option maxHeartbeats 8000000 in
set_option maxRecDepth 100000 in
theorem spec_l19Piece.calls (k : Nat) (A0 : Option Addr) (l0 : List (S53)) (r : Bool) (w : World) (hr0 : Kd.C k53 w A0 l0.length l0) (h : spec_l19Piece.f k l0 = some r) :
 Calls Try.prog 72 #[.pointer A0] w fun e w' => e = .returned (.bool r) ∧ Below w.heap.size w w' := by
 have hu105 := Try.underlying105
 have HR0 := mkA hr0
 clear hr0
 have HB := mkA (Below.refl w.heap.size w)
 have H : (if 0 < (l0.length : Int) then ((spec_l01Name.f k ((rd_T53 l0 0).f0)).bind fun t123 => (if t123 = true then (if (((rd_T53 l0 0).f1).length : Int) < 1 then (spec_l19Piece.j0 k true l0) else (if (((rd_T53 l0 0).f1).length : Int) > 6 then (spec_l19Piece.j0 k true l0) else ((spec_l00In.f ((rd_T53 l0 0).f2) 0 24).bind fun t127 => (spec_l19Piece.j0 k (!t127) l0)))) else (spec_l19Piece.j0 k true l0))) else (none)) = some r := h
 clear h
 have HC2 := mkA H
 clear H
 go_enter Try.func72, Try.ntmps72
 go_upto_region 1 with (fail)
 go_cut [35] (fun v35 wc => ∃ (kq : Nat) (x35_1 : Bool), v35 = .bool x35_1 ∧ Aside0 (spec_l19Piece.j0 kq x35_1 l0 = some r) ∧ Aside0 (kq ≤ k) ∧ Aside0 (Below w.heap.size w wc))
 case first =>
  have H := HC2.out
  clear HC2
  by_cases c3 : 0 < (l0.length : Int)
  rotate_left
  · rw [if_neg c3] at H
    exact absurd H (by simp)
  rw [if_pos c3] at H
  have c3b0 : decide (0 < (l0.length : Int)) = true := decide_eq_true c3
  have c3b1 : decide (0 < l0.length) = true := decide_eq_true (by omega)
  clear c3
  (first | rw [c3b0] | (simp only [i64_w, i32_w]; rw [c3b0]) | skip)
  replace H := Option.bind_eq_some_iff.mp H
  obtain ⟨t123, A40, H⟩ := H
  replace H : (if t123 = true then (if (((rd_T53 l0 0).f1).length : Int) < 1 then (spec_l19Piece.j0 k true l0) else (if (((rd_T53 l0 0).f1).length : Int) > 6 then (spec_l19Piece.j0 k true l0) else ((spec_l00In.f ((rd_T53 l0 0).f2) 0 24).bind fun t127 => (spec_l19Piece.j0 k (!t127) l0)))) else (spec_l19Piece.j0 k true l0)) = some r := H
  have A4 := mkA A40
  clear A40
  by_cases c5 : t123 = true
  rotate_left
  · replace c5 := Bool.eq_false_iff.mpr c5
    subst c5
    have H1 : (spec_l19Piece.j0 k true l0) = some r := by rw [if_neg (show ¬ (false = true) by decide)] at H; exact H
    clear H
    have H := H1
    clear H1
    have H' := mkA H
    clear H
    have p122 : 0 ≤ (0 : Int) := (by omega)
    have q122 : 0 < (l0.length : Int) := dt_
    obtain ⟨ad122, A122_1, c122_1, e122, hx122_0, hx122_1, hx122_2, hx122_3, hl122_1, hi122_1⟩ := at0_T53 HR0.out q122
    cases e122
    have qi122 : (0 < l0.length) = True := eq_true (by omega)
    replace hx122_0 := bc_ HB.out hx122_0
    replace hx122_1 := bc_ HB.out hx122_1
    replace hx122_2 := bc_ HB.out hx122_2
    replace hx122_3 := bc_ HB.out hx122_3
    have HR122_1 := mkA hi122_1
    have HC122_1 := mkA hl122_1
    clear hi122_1 hl122_1
    replace p122 := eq_true p122
    replace q122 := eq_true q122
    go_wp2_with (first | ((with_reducible refine gate_callee (f := 91) rfl ?_); refine goesL_ (some 10) rfl rfl Try.func91 (by kernel_rfl) rfl #[.string ((rd_T53 l0 0).f0)] rfl (by (try simp only [List.map_toArray, List.map_cons, List.map_nil]); first | done | rfl | (simp only [List.length_drop, List.length_take]; rfl)) ?_; (with_reducible refine (spec_l01Name.calls k ((rd_T53 l0 0).f0) false _ A4.out).mono ?_); rintro e w' ⟨rfl, ⟨nd, rfl⟩⟩; refine ⟨_, rfl, ?_⟩))
    go_meet
    case rel => exact ⟨_, (true), (by first | rfl | (simp; done) | (simp [*]; done) | (simp [i64_w, i32_w]; done)), H', ⟨by first | omega | exact Nat.le_refl _⟩, ⟨by repeat (first | (with_reducible first | exact HB.out | apply below_alloc | apply pw_below_drewN | apply below_drew1) | exact HB.out)⟩⟩
  subst c5
  have H1 : (if (((rd_T53 l0 0).f1).length : Int) < 1 then (spec_l19Piece.j0 k true l0) else (if (((rd_T53 l0 0).f1).length : Int) > 6 then (spec_l19Piece.j0 k true l0) else ((spec_l00In.f ((rd_T53 l0 0).f2) 0 24).bind fun t127 => (spec_l19Piece.j0 k (!t127) l0)))) = some r := by rw [if_pos rfl] at H; exact H
  clear H
  have H := H1
  clear H1
  by_cases c6 : (((rd_T53 l0 0).f1).length : Int) < 1
  · rw [if_pos c6] at H
    have c6b0 : decide ((((rd_T53 l0 0).f1).length : Int) < 1) = true := decide_eq_true c6
    have c6b1 : decide (((rd_T53 l0 0).f1).length < 1) = true := decide_eq_true (by omega)
    clear c6
    have H' := mkA H
    clear H
    have p122 : 0 ≤ (0 : Int) := (by omega)
    have q122 : 0 < (l0.length : Int) := dt_
    obtain ⟨ad122, A122_1, c122_1, e122, hx122_0, hx122_1, hx122_2, hx122_3, hl122_1, hi122_1⟩ := at0_T53 HR0.out q122
    cases e122
    have qi122 : (0 < l0.length) = True := eq_true (by omega)
    replace hx122_0 := bc_ HB.out hx122_0
    replace hx122_1 := bc_ HB.out hx122_1
    replace hx122_2 := bc_ HB.out hx122_2
    replace hx122_3 := bc_ HB.out hx122_3
    have HR122_1 := mkA hi122_1
    have HC122_1 := mkA hl122_1
    clear hi122_1 hl122_1
    replace p122 := eq_true p122
    replace q122 := eq_true q122
    go_wp2_with (first | ((with_reducible refine gate_callee (f := 91) rfl ?_); refine goesL_ (some 10) rfl rfl Try.func91 (by kernel_rfl) rfl #[.string ((rd_T53 l0 0).f0)] rfl (by (try simp only [List.map_toArray, List.map_cons, List.map_nil]); first | done | rfl | (simp only [List.length_drop, List.length_take]; rfl)) ?_; (with_reducible refine (spec_l01Name.calls k ((rd_T53 l0 0).f0) true _ A4.out).mono ?_); rintro e w' ⟨rfl, ⟨nd, rfl⟩⟩; refine ⟨_, rfl, ?_⟩; have p124 : 0 ≤ (0 : Int) := (by omega); have q124 : 0 < (l0.length : Int) := dt_; obtain ⟨ad124, A124_1, c124_1, e124, hx124_0, hx124_1, hx124_2, hx124_3, hl124_1, hi124_1⟩ := at0_T53 HR0.out q124; obtain rfl : ad122 = ad124 := (by injection e124); have qi124 : (0 < l0.length) = True := eq_true (by omega); replace hx124_0 := bc_ HB.out hx124_0; replace hx124_1 := bc_ HB.out hx124_1; replace hx124_2 := bc_ HB.out hx124_2; replace hx124_3 := bc_ HB.out hx124_3; have HR124_1 := mkA hi124_1; have HC124_1 := mkA hl124_1; clear hi124_1 hl124_1; replace p124 := eq_true p124; replace q124 := eq_true q124; have ea_ := Option.some.inj (hx122_1.symm.trans hx124_1); injection ea_ with ea_ en_ ec_; subst ea_; subst ec_; clear en_))
    go_meet
    case rel => exact ⟨_, (true), (by first | rfl | (simp; done) | (simp [*]; done) | (simp [i64_w, i32_w]; done)), H', ⟨by first | omega | exact Nat.le_refl _⟩, ⟨by repeat (first | (with_reducible first | exact HB.out | apply below_alloc | apply pw_below_drewN | apply below_drew1) | exact HB.out)⟩⟩
  · rw [if_neg c6] at H
    have c6b0 : decide ((((rd_T53 l0 0).f1).length : Int) < 1) = false := decide_eq_false c6
    have c6b1 : decide (((rd_T53 l0 0).f1).length < 1) = false := decide_eq_false (by omega)
    clear c6
    by_cases c7 : (((rd_T53 l0 0).f1).length : Int) > 6
    · rw [if_pos c7] at H
      have c7b0 : decide (6 < (((rd_T53 l0 0).f1).length : Int)) = true := decide_eq_true c7
      have c7b1 : decide (6 < ((rd_T53 l0 0).f1).length) = true := decide_eq_true (by omega)
      clear c7
      have H' := mkA H
      clear H
      have p122 : 0 ≤ (0 : Int) := (by omega)
      have q122 : 0 < (l0.length : Int) := dt_
      obtain ⟨ad122, A122_1, c122_1, e122, hx122_0, hx122_1, hx122_2, hx122_3, hl122_1, hi122_1⟩ := at0_T53 HR0.out q122
      cases e122
      have qi122 : (0 < l0.length) = True := eq_true (by omega)
      replace hx122_0 := bc_ HB.out hx122_0
      replace hx122_1 := bc_ HB.out hx122_1
      replace hx122_2 := bc_ HB.out hx122_2
      replace hx122_3 := bc_ HB.out hx122_3
      have HR122_1 := mkA hi122_1
      have HC122_1 := mkA hl122_1
      clear hi122_1 hl122_1
      replace p122 := eq_true p122
      replace q122 := eq_true q122
      go_wp2_with (first | ((with_reducible refine gate_callee (f := 91) rfl ?_); refine goesL_ (some 10) rfl rfl Try.func91 (by kernel_rfl) rfl #[.string ((rd_T53 l0 0).f0)] rfl (by (try simp only [List.map_toArray, List.map_cons, List.map_nil]); first | done | rfl | (simp only [List.length_drop, List.length_take]; rfl)) ?_; (with_reducible refine (spec_l01Name.calls k ((rd_T53 l0 0).f0) true _ A4.out).mono ?_); rintro e w' ⟨rfl, ⟨nd, rfl⟩⟩; refine ⟨_, rfl, ?_⟩; have p124 : 0 ≤ (0 : Int) := (by omega); have q124 : 0 < (l0.length : Int) := dt_; obtain ⟨ad124, A124_1, c124_1, e124, hx124_0, hx124_1, hx124_2, hx124_3, hl124_1, hi124_1⟩ := at0_T53 HR0.out q124; obtain rfl : ad122 = ad124 := (by injection e124); have qi124 : (0 < l0.length) = True := eq_true (by omega); replace hx124_0 := bc_ HB.out hx124_0; replace hx124_1 := bc_ HB.out hx124_1; replace hx124_2 := bc_ HB.out hx124_2; replace hx124_3 := bc_ HB.out hx124_3; have HR124_1 := mkA hi124_1; have HC124_1 := mkA hl124_1; clear hi124_1 hl124_1; replace p124 := eq_true p124; replace q124 := eq_true q124; have ea_ := Option.some.inj (hx122_1.symm.trans hx124_1); injection ea_ with ea_ en_ ec_; subst ea_; subst ec_; clear en_; have p125 : 0 ≤ (0 : Int) := (by omega); have q125 : 0 < (l0.length : Int) := dt_; obtain ⟨ad125, A125_1, c125_1, e125, hx125_0, hx125_1, hx125_2, hx125_3, hl125_1, hi125_1⟩ := at0_T53 HR0.out q125; obtain rfl : ad122 = ad125 := (by injection e125); have qi125 : (0 < l0.length) = True := eq_true (by omega); replace hx125_0 := bc_ HB.out hx125_0; replace hx125_1 := bc_ HB.out hx125_1; replace hx125_2 := bc_ HB.out hx125_2; replace hx125_3 := bc_ HB.out hx125_3; have HR125_1 := mkA hi125_1; have HC125_1 := mkA hl125_1; clear hi125_1 hl125_1; replace p125 := eq_true p125; replace q125 := eq_true q125; have ea_ := Option.some.inj (hx122_1.symm.trans hx125_1); injection ea_ with ea_ en_ ec_; subst ea_; subst ec_; clear en_))
      go_meet
      case rel => exact ⟨_, (true), (by first | rfl | (simp; done) | (simp [*]; done) | (simp [i64_w, i32_w]; done)), H', ⟨by first | omega | exact Nat.le_refl _⟩, ⟨by repeat (first | (with_reducible first | exact HB.out | apply below_alloc | apply pw_below_drewN | apply below_drew1) | exact HB.out)⟩⟩
    · rw [if_neg c7] at H
      have c7b0 : decide (6 < (((rd_T53 l0 0).f1).length : Int)) = false := decide_eq_false c7
      have c7b1 : decide (6 < ((rd_T53 l0 0).f1).length) = false := decide_eq_false (by omega)
      clear c7
      replace H := Option.bind_eq_some_iff.mp H
      obtain ⟨t127, A80, H⟩ := H
      replace H : (spec_l19Piece.j0 k (!t127) l0) = some r := H
      have A8 := mkA A80
      clear A80
      have H' := mkA H
      clear H
      have p122 : 0 ≤ (0 : Int) := (by omega)
      have q122 : 0 < (l0.length : Int) := dt_
      obtain ⟨ad122, A122_1, c122_1, e122, hx122_0, hx122_1, hx122_2, hx122_3, hl122_1, hi122_1⟩ := at0_T53 HR0.out q122
      cases e122
      have qi122 : (0 < l0.length) = True := eq_true (by omega)
      replace hx122_0 := bc_ HB.out hx122_0
      replace hx122_1 := bc_ HB.out hx122_1
      replace hx122_2 := bc_ HB.out hx122_2
      replace hx122_3 := bc_ HB.out hx122_3
      have HR122_1 := mkA hi122_1
      have HC122_1 := mkA hl122_1
      clear hi122_1 hl122_1
      replace p122 := eq_true p122
      replace q122 := eq_true q122
      go_wp2_with (first | ((with_reducible refine gate_callee (f := 91) rfl ?_); refine goesL_ (some 10) rfl rfl Try.func91 (by kernel_rfl) rfl #[.string ((rd_T53 l0 0).f0)] rfl (by (try simp only [List.map_toArray, List.map_cons, List.map_nil]); first | done | rfl | (simp only [List.length_drop, List.length_take]; rfl)) ?_; (with_reducible refine (spec_l01Name.calls k ((rd_T53 l0 0).f0) true _ A4.out).mono ?_); rintro e w' ⟨rfl, ⟨nd, rfl⟩⟩; refine ⟨_, rfl, ?_⟩; have p124 : 0 ≤ (0 : Int) := (by omega); have q124 : 0 < (l0.length : Int) := dt_; obtain ⟨ad124, A124_1, c124_1, e124, hx124_0, hx124_1, hx124_2, hx124_3, hl124_1, hi124_1⟩ := at0_T53 HR0.out q124; obtain rfl : ad122 = ad124 := (by injection e124); have qi124 : (0 < l0.length) = True := eq_true (by omega); replace hx124_0 := bc_ HB.out hx124_0; replace hx124_1 := bc_ HB.out hx124_1; replace hx124_2 := bc_ HB.out hx124_2; replace hx124_3 := bc_ HB.out hx124_3; have HR124_1 := mkA hi124_1; have HC124_1 := mkA hl124_1; clear hi124_1 hl124_1; replace p124 := eq_true p124; replace q124 := eq_true q124; have ea_ := Option.some.inj (hx122_1.symm.trans hx124_1); injection ea_ with ea_ en_ ec_; subst ea_; subst ec_; clear en_; have p125 : 0 ≤ (0 : Int) := (by omega); have q125 : 0 < (l0.length : Int) := dt_; obtain ⟨ad125, A125_1, c125_1, e125, hx125_0, hx125_1, hx125_2, hx125_3, hl125_1, hi125_1⟩ := at0_T53 HR0.out q125; obtain rfl : ad122 = ad125 := (by injection e125); have qi125 : (0 < l0.length) = True := eq_true (by omega); replace hx125_0 := bc_ HB.out hx125_0; replace hx125_1 := bc_ HB.out hx125_1; replace hx125_2 := bc_ HB.out hx125_2; replace hx125_3 := bc_ HB.out hx125_3; have HR125_1 := mkA hi125_1; have HC125_1 := mkA hl125_1; clear hi125_1 hl125_1; replace p125 := eq_true p125; replace q125 := eq_true q125; have ea_ := Option.some.inj (hx122_1.symm.trans hx125_1); injection ea_ with ea_ en_ ec_; subst ea_; subst ec_; clear en_; have p126 : 0 ≤ (0 : Int) := (by omega); have q126 : 0 < (l0.length : Int) := dt_; obtain ⟨ad126, A126_1, c126_1, e126, hx126_0, hx126_1, hx126_2, hx126_3, hl126_1, hi126_1⟩ := at0_T53 HR0.out q126; obtain rfl : ad122 = ad126 := (by injection e126); have qi126 : (0 < l0.length) = True := eq_true (by omega); replace hx126_0 := bc_ HB.out hx126_0; replace hx126_1 := bc_ HB.out hx126_1; replace hx126_2 := bc_ HB.out hx126_2; replace hx126_3 := bc_ HB.out hx126_3; have HR126_1 := mkA hi126_1; have HC126_1 := mkA hl126_1; clear hi126_1 hl126_1; replace p126 := eq_true p126; replace q126 := eq_true q126; have ea_ := Option.some.inj (hx122_1.symm.trans hx126_1); injection ea_ with ea_ en_ ec_; subst ea_; subst ec_; clear en_) | (go_at_call 60; (with_reducible refine (spec_l00In.calls ((rd_T53 l0 0).f2) 0 24 t127 _ A8.out).mono ?_); rintro e w' ⟨rfl, ⟨nd, rfl⟩⟩))
      go_meet
      case rel => exact ⟨_, (!t127), (by first | rfl | (simp; done) | (simp [*]; done) | (simp [i64_w, i32_w]; done)), H', ⟨by first | omega | exact Nat.le_refl _⟩, ⟨by repeat (first | (with_reducible first | exact HB.out | apply below_alloc | apply pw_below_drewN | apply below_drew1) | exact HB.out)⟩⟩
 case rest =>
  clear HC2
  try clear c1
  try clear p1
  try clear q1
  try clear hx1
  try clear qi1
  try clear p2
  try clear c3
  try clear c3b0
  try clear c3b1
  try clear c5
  try clear c6
  try clear c6b0
  try clear c6b1
  try clear c7
  try clear c7b0
  try clear c7b1
  try clear hx122_0
  try clear hx122_1
  try clear hx122_2
  try clear hx122_3
  try clear hx124_0
  try clear hx124_1
  try clear hx124_2
  try clear hx124_3
  try clear hx125_0
  try clear hx125_1
  try clear hx125_2
  try clear hx125_3
  try clear hx126_0
  try clear hx126_1
  try clear hx126_2
  try clear hx126_3
  try clear p122
  try clear p124
  try clear p125
  try clear p126
  try clear q122
  try clear q124
  try clear q125
  try clear q126
  obtain ⟨kq, x35_1, rfl, HA, HJ1, HB⟩ := hcut
  cases kq with
  | zero => exact absurd HA.out (by simp [spec_l19Piece.j0])
  | succ kj1 =>
   have H := HA.out
   clear HA
   simp only [spec_l19Piece.j0] at H
   by_cases c9 : x35_1 = true
   · subst c9
     have H1 : (some false) = some r := by rw [if_pos rfl] at H; exact H
     clear H
     have H := H1
     clear H1
     obtain rfl := Option.some.inj H
     go_wp2
     go_ret
     exact ⟨by first | rfl | (simp [errW_none, errW_some] <;> rfl) | (simp [*, errW_none, errW_some] <;> rfl), by repeat (first | (with_reducible first | exact HB.out | apply below_alloc | apply pw_below_drewN | apply below_drew1) | exact HB.out)⟩
   · replace c9 := Bool.eq_false_iff.mpr c9
     subst c9
     have H1 : (spec_l19Piece.l0 kj1 0 l0) = some r := by rw [if_neg (show ¬ (false = true) by decide)] at H; exact H
     clear H
     have H := H1
     clear H1
     have H' := mkA H
     clear H
     go_wp2
     go_loopg [3] kj1 (fun kq v3 w' => ∃ (x3_2 : Int), v3 = .int .i64 x3_2 ∧ Aside0 (spec_l19Piece.l0 kq x3_2 l0 = some r) ∧ Aside0 (kq ≤ kj1) ∧ Aside0 (Below w.heap.size w w'))
     case atStart => exact ⟨(0), (by first | rfl | (simp; done) | (simp [*]; done) | (simp [i64_w, i32_w]; done)), H', ⟨Nat.le_refl _⟩, ⟨by repeat (first | (with_reducible first | exact HB.out | apply below_alloc | apply pw_below_drewN | apply below_drew1) | exact HB.out)⟩⟩
     case round =>
      clear H'
      try clear c1
      try clear p1
      try clear q1
      try clear hx1
      try clear qi1
      try clear p2
      try clear c3
      try clear c3b0
      try clear c3b1
      try clear c5
      try clear c6
      try clear c6b0
      try clear c6b1
      try clear c7
      try clear c7b0
      try clear c7b1
      try clear c9
      try clear hx122_0
      try clear hx122_1
      try clear hx122_2
      try clear hx122_3
      try clear hx124_0
      try clear hx124_1
      try clear hx124_2
      try clear hx124_3
      try clear hx125_0
      try clear hx125_1
      try clear hx125_2
      try clear hx125_3
      try clear hx126_0
      try clear hx126_1
      try clear hx126_2
      try clear hx126_3
      try clear p1
      try clear p122
      try clear p124
      try clear p125
      try clear p126
      try clear p2
      try clear q1
      try clear q122
      try clear q124
      try clear q125
      try clear q126
      obtain ⟨x3_2, rfl, HA, HK2, HB⟩ := hrel
      cases gk with
      | zero => exact absurd HA.out (by simp [spec_l19Piece.l0])
      | succ k2 =>
       have H := HA.out
       clear HA
       simp only [spec_l19Piece.l0] at H
       by_cases c10 : 0 < (l0.length : Int)
       rotate_left
       · rw [if_neg c10] at H
         exact absurd H (by simp)

       rw [if_pos c10] at H
       have c10b0 : decide (0 < (l0.length : Int)) = true := decide_eq_true c10
       have c10b1 : decide (0 < l0.length) = true := decide_eq_true (by omega)
       clear c10
       by_cases c11 : x3_2 < (((rd_T53 l0 0).f1).length : Int)
       rotate_left
       · rw [if_neg c11] at H
         have c11b0 : decide (x3_2 < (((rd_T53 l0 0).f1).length : Int)) = false := decide_eq_false c11
         clear c11
         replace H := Option.bind_eq_some_iff.mp H
         obtain ⟨⟨t130, t131, t132, t133⟩, A300, H⟩ := H
         replace H : (if t130 = 0 then (some (t131 == 0)) else (some false)) = some r := H
         have A30 := mkA A300
         clear A300
         by_cases c31 : t130 = 0
         rotate_left
         · rw [if_neg c31] at H
           have c31b0 : (t130 == 0) = false := beq_eq_false_iff_ne.mpr c31
           have c31b1 : (t130 != 0) = true := bne_iff_ne.mpr c31
           obtain rfl := Option.some.inj H
           have p128 : 0 ≤ (0 : Int) := (by omega)
           have q128 : 0 < (l0.length : Int) := dt_
           obtain ⟨ad128, A128_1, c128_1, e128, hx128_0, hx128_1, hx128_2, hx128_3, hl128_1, hi128_1⟩ := at0_T53 HR0.out q128
           cases e128
           have qi128 : (0 < l0.length) = True := eq_true (by omega)
           replace hx128_0 := bc_ HB.out hx128_0
           replace hx128_1 := bc_ HB.out hx128_1
           replace hx128_2 := bc_ HB.out hx128_2
           replace hx128_3 := bc_ HB.out hx128_3
           have HR128_1 := mkA hi128_1
           have HC128_1 := mkA hl128_1
           clear hi128_1 hl128_1
           replace p128 := eq_true p128
           replace q128 := eq_true q128
           have p129 : 0 ≤ (0 : Int) := (by omega)
           have q129 : 0 < (l0.length : Int) := dt_
           obtain ⟨ad129, A129_1, c129_1, e129, hx129_0, hx129_1, hx129_2, hx129_3, hl129_1, hi129_1⟩ := at0_T53 HR0.out q129
           obtain rfl : ad128 = ad129 := (by injection e129)
           have qi129 : (0 < l0.length) = True := eq_true (by omega)
           replace hx129_0 := bc_ HB.out hx129_0
           replace hx129_1 := bc_ HB.out hx129_1
           replace hx129_2 := bc_ HB.out hx129_2
           replace hx129_3 := bc_ HB.out hx129_3
           have HR129_1 := mkA hi129_1
           have HC129_1 := mkA hl129_1
           clear hi129_1 hl129_1
           replace p129 := eq_true p129
           replace q129 := eq_true q129
           have ea_ := Option.some.inj (hx128_1.symm.trans hx129_1)
           injection ea_ with ea_ en_ ec_
           subst ea_
           subst ec_
           clear en_
           go_wp2_with (first | ((with_reducible refine gate_callee (f := 93) rfl ?_); refine goesL_ (some 95) rfl rfl Try.func93 (by kernel_rfl) rfl #[.slice A128_1 ((rd_T53 l0 0).f1).length c128_1] rfl (by (try simp only [List.map_toArray, List.map_cons, List.map_nil]); first | done | rfl | (simp only [List.length_drop, List.length_take]; rfl)) ?_; (with_reducible refine (spec_l03Bounds.calls k2 _ _ ((rd_T53 l0 0).f1) t130 t131 t132 t133 _ ?side1 ?side2 A30.out).mono ?_); (case side1 => exact cb_ HR129_1.out HB.out); (case side2 => exact HC129_1.out); rintro e w38 ⟨rfl, hb⟩; refine ⟨_, rfl, ?_⟩; have n0_ := mkA (below_step (bs0_ HB.out) hb); clear HB; have HB := n0_; clear n0_; (try clear hb); (try clear hb2); (try clear hk); (try clear hi)) | ((with_reducible refine gate_dst (N := 4) rfl ?_); (try (refine gate_guard (by rfl) ?_; dsimp only)); refine box_event ?hg (N := 4) ?hd (cs := #[.int .i64 0, .int .i64 0]) (t := 105) ?hr ?_; (case hd => rfl); (case hg => rfl); (case hr => first | (go_simp; done) | (go_simp; rfl)); intro gb134 hg w39 hbox hb; have n0_ := mkA (below_step (bs0_ HB.out) hb); have n1_ := mkA (hbox); have n2_ := mkA ((by rw [hg]; exact (below_size (bs0_ HB.out)) : w.heap.size ≤ gb134)); have n3_ := mkA ((by rw [hg]; exact (below_size (bs0_ HB.out)) : w.heap.size ≤ gb134)); clear HB; have HB := n0_; have BK134 := n1_; have GW134 := n2_; have GE134 := n3_; clear n0_ n1_ n2_ n3_; clear hb hbox hg) | ((with_reducible refine gate_dst (N := 5) rfl ?_); (try (refine gate_guard (by rfl) ?_; dsimp only)); refine box_event ?hg (N := 5) ?hd (cs := #[.int .i64 0, .int .i64 0]) (t := 105) ?hr ?_; (case hd => rfl); (case hg => rfl); (case hr => first | (go_simp; done) | (go_simp; rfl)); intro gb135 hg w40 hbox hb; have n0_ := mkA (blk_below (g := gb134) (o := .cells #[.int .i64 0, .int .i64 0] 105 (0, 0)) (bl_ BK134.out) hb); have n1_ := mkA (below_step (bs1_ HB.out GE134.out) hb); have n2_ := mkA (hbox); have n3_ := mkA ((by rw [hg]; exact (below_size (bs1_ HB.out GE134.out)) : w.heap.size ≤ gb135)); have n4_ := mkA ((by rw [hg]; exact (below_size (bs1_ HB.out GE134.out)) : w.heap.size ≤ gb135)); have n5_ := mkA ((by rw [hg]; exact Nat.ne_of_lt (blk_lt (g := gb134) (o := .cells #[.int .i64 0, .int .i64 0] 105 (0, 0)) (bl_ BK134.out)) : gb134 ≠ gb135)); have n6_ := mkA ((by rw [hg]; exact Nat.ne_of_gt (blk_lt (g := gb134) (o := .cells #[.int .i64 0, .int .i64 0] 105 (0, 0)) (bl_ BK134.out)) : gb135 ≠ gb134)); clear BK134; clear HB; have BK134 := n0_; have HB := n1_; have BK135 := n2_; have GW135 := n3_; have GE135 := n4_; have NB134_135 := n5_; have NB135_134 := n6_; clear n0_ n1_ n2_ n3_ n4_ n5_ n6_; clear hb hbox hg; have hnb41 := NB134_135.out; have hnc41 := NB135_134.out; have hcz42_0 : w40.cell? ⟨gb134, 0, none⟩ = some (.int .i64 0) := (blk_cell BK134.out 0).trans rfl; have hcz42_1 : w40.cell? ⟨gb134, 1, none⟩ = some (.int .i64 0) := (blk_cell BK134.out 1).trans rfl; have hfz42_0 := blk_frozen BK134.out 0; have hfz42_1 := blk_frozen BK134.out 1; have hcz43_0 : w40.cell? ⟨gb135, 0, none⟩ = some (.int .i64 0) := (blk_cell BK135.out 0).trans rfl; have hcz43_1 : w40.cell? ⟨gb135, 1, none⟩ = some (.int .i64 0) := (blk_cell BK135.out 1).trans rfl; have hfz43_0 := blk_frozen BK135.out 0; have hfz43_1 := blk_frozen BK135.out 1))
           go_ret
           exact ⟨by first | rfl | (simp [errW_none, errW_some] <;> rfl) | (simp [*, errW_none, errW_some] <;> rfl), by repeat (first | (with_reducible first | exact HB.out | apply below_alloc | apply pw_below_drewN | apply below_drew1 | refine below_set ?_ GE134.out | refine below_set ?_ GE135.out) | exact HB.out)⟩
         rw [if_pos c31] at H
         have c31b0 : (t130 == 0) = true := beq_iff_eq.mpr c31
         have c31b1 : (t130 != 0) = false := bne_eq_false_iff_eq.mpr c31
         clear c31
         obtain rfl := Option.some.inj H
         have p128 : 0 ≤ (0 : Int) := (by omega)
         have q128 : 0 < (l0.length : Int) := dt_
         obtain ⟨ad128, A128_1, c128_1, e128, hx128_0, hx128_1, hx128_2, hx128_3, hl128_1, hi128_1⟩ := at0_T53 HR0.out q128
         cases e128
         have qi128 : (0 < l0.length) = True := eq_true (by omega)
         replace hx128_0 := bc_ HB.out hx128_0
         replace hx128_1 := bc_ HB.out hx128_1
         replace hx128_2 := bc_ HB.out hx128_2
         replace hx128_3 := bc_ HB.out hx128_3
         have HR128_1 := mkA hi128_1
         have HC128_1 := mkA hl128_1
         clear hi128_1 hl128_1
         replace p128 := eq_true p128
         replace q128 := eq_true q128
         have p129 : 0 ≤ (0 : Int) := (by omega)
         have q129 : 0 < (l0.length : Int) := dt_
         obtain ⟨ad129, A129_1, c129_1, e129, hx129_0, hx129_1, hx129_2, hx129_3, hl129_1, hi129_1⟩ := at0_T53 HR0.out q129
         obtain rfl : ad128 = ad129 := (by injection e129)
         have qi129 : (0 < l0.length) = True := eq_true (by omega)
         replace hx129_0 := bc_ HB.out hx129_0
         replace hx129_1 := bc_ HB.out hx129_1
         replace hx129_2 := bc_ HB.out hx129_2
         replace hx129_3 := bc_ HB.out hx129_3
         have HR129_1 := mkA hi129_1
         have HC129_1 := mkA hl129_1
         clear hi129_1 hl129_1
         replace p129 := eq_true p129
         replace q129 := eq_true q129
         have ea_ := Option.some.inj (hx128_1.symm.trans hx129_1)
         injection ea_ with ea_ en_ ec_
         subst ea_
         subst ec_
         clear en_
         go_wp2_with (first | ((with_reducible refine gate_callee (f := 93) rfl ?_); refine goesL_ (some 95) rfl rfl Try.func93 (by kernel_rfl) rfl #[.slice A128_1 ((rd_T53 l0 0).f1).length c128_1] rfl (by (try simp only [List.map_toArray, List.map_cons, List.map_nil]); first | done | rfl | (simp only [List.length_drop, List.length_take]; rfl)) ?_; (with_reducible refine (spec_l03Bounds.calls k2 _ _ ((rd_T53 l0 0).f1) t130 t131 t132 t133 _ ?side1 ?side2 A30.out).mono ?_); (case side1 => exact cb_ HR129_1.out HB.out); (case side2 => exact HC129_1.out); rintro e w32 ⟨rfl, hb⟩; refine ⟨_, rfl, ?_⟩; have n0_ := mkA (below_step (bs0_ HB.out) hb); clear HB; have HB := n0_; clear n0_; (try clear hb); (try clear hb2); (try clear hk); (try clear hi)) | ((with_reducible refine gate_dst (N := 4) rfl ?_); (try (refine gate_guard (by rfl) ?_; dsimp only)); refine box_event ?hg (N := 4) ?hd (cs := #[.int .i64 0, .int .i64 0]) (t := 105) ?hr ?_; (case hd => rfl); (case hg => rfl); (case hr => first | (go_simp; done) | (go_simp; rfl)); intro gb134 hg w33 hbox hb; have n0_ := mkA (below_step (bs0_ HB.out) hb); have n1_ := mkA (hbox); have n2_ := mkA ((by rw [hg]; exact (below_size (bs0_ HB.out)) : w.heap.size ≤ gb134)); have n3_ := mkA ((by rw [hg]; exact (below_size (bs0_ HB.out)) : w.heap.size ≤ gb134)); clear HB; have HB := n0_; have BK134 := n1_; have GW134 := n2_; have GE134 := n3_; clear n0_ n1_ n2_ n3_; clear hb hbox hg) | ((with_reducible refine gate_dst (N := 5) rfl ?_); (try (refine gate_guard (by rfl) ?_; dsimp only)); refine box_event ?hg (N := 5) ?hd (cs := #[.int .i64 0, .int .i64 0]) (t := 105) ?hr ?_; (case hd => rfl); (case hg => rfl); (case hr => first | (go_simp; done) | (go_simp; rfl)); intro gb135 hg w34 hbox hb; have n0_ := mkA (blk_below (g := gb134) (o := .cells #[.int .i64 0, .int .i64 0] 105 (0, 0)) (bl_ BK134.out) hb); have n1_ := mkA (below_step (bs1_ HB.out GE134.out) hb); have n2_ := mkA (hbox); have n3_ := mkA ((by rw [hg]; exact (below_size (bs1_ HB.out GE134.out)) : w.heap.size ≤ gb135)); have n4_ := mkA ((by rw [hg]; exact (below_size (bs1_ HB.out GE134.out)) : w.heap.size ≤ gb135)); have n5_ := mkA ((by rw [hg]; exact Nat.ne_of_lt (blk_lt (g := gb134) (o := .cells #[.int .i64 0, .int .i64 0] 105 (0, 0)) (bl_ BK134.out)) : gb134 ≠ gb135)); have n6_ := mkA ((by rw [hg]; exact Nat.ne_of_gt (blk_lt (g := gb134) (o := .cells #[.int .i64 0, .int .i64 0] 105 (0, 0)) (bl_ BK134.out)) : gb135 ≠ gb134)); clear BK134; clear HB; have BK134 := n0_; have HB := n1_; have BK135 := n2_; have GW135 := n3_; have GE135 := n4_; have NB134_135 := n5_; have NB135_134 := n6_; clear n0_ n1_ n2_ n3_ n4_ n5_ n6_; clear hb hbox hg; have hnb35 := NB134_135.out; have hnc35 := NB135_134.out; have hcz36_0 : w34.cell? ⟨gb134, 0, none⟩ = some (.int .i64 0) := (blk_cell BK134.out 0).trans rfl; have hcz36_1 : w34.cell? ⟨gb134, 1, none⟩ = some (.int .i64 0) := (blk_cell BK134.out 1).trans rfl; have hfz36_0 := blk_frozen BK134.out 0; have hfz36_1 := blk_frozen BK134.out 1; have hcz37_0 : w34.cell? ⟨gb135, 0, none⟩ = some (.int .i64 0) := (blk_cell BK135.out 0).trans rfl; have hcz37_1 : w34.cell? ⟨gb135, 1, none⟩ = some (.int .i64 0) := (blk_cell BK135.out 1).trans rfl; have hfz37_0 := blk_frozen BK135.out 0; have hfz37_1 := blk_frozen BK135.out 1))
         go_ret
         exact ⟨by first | rfl | (simp [errW_none, errW_some] <;> rfl) | (simp [*, errW_none, errW_some] <;> rfl), by repeat (first | (with_reducible first | exact HB.out | apply below_alloc | apply pw_below_drewN | apply below_drew1 | refine below_set ?_ GE134.out | refine below_set ?_ GE135.out) | exact HB.out)⟩
       rw [if_pos c11] at H
       have c11b0 : decide (x3_2 < (((rd_T53 l0 0).f1).length : Int)) = true := decide_eq_true c11
       clear c11
       by_cases c12 : 0 ≤ x3_2
       rotate_left
       · rw [if_neg c12] at H
         exact absurd H (by simp)
       rw [if_pos c12] at H
       have c12b0 : decide (0 ≤ x3_2) = true := decide_eq_true c12
       clear c12
       replace H := Option.bind_eq_some_iff.mp H
       obtain ⟨t138, A130, H⟩ := H
       replace H : (if t138 = true then ((spec_l00In.f ((rd_T105 ((rd_T53 l0 0).f1) x3_2).f1) 0 5).bind fun t141 => (if t141 = true then (if x3_2 > 0 then (if 0 ≤ (wrap64 (x3_2 - 1)) then (if (wrap64 (x3_2 - 1)) < (((rd_T53 l0 0).f1).length : Int) then ((spec_l19Before.f ((rd_T105 ((rd_T53 l0 0).f1) (wrap64 (x3_2 - 1))).f0) ((rd_T105 ((rd_T53 l0 0).f1) (wrap64 (x3_2 - 1))).f1) ((rd_T105 ((rd_T53 l0 0).f1) x3_2).f0) ((rd_T105 ((rd_T53 l0 0).f1) x3_2).f1)).bind fun t146 => (if t146 = true then (spec_l19Piece.l0 k2 (wrap64 (x3_2 + 1)) l0) else (some false))) else (none)) else (none)) else (spec_l19Piece.l0 k2 (wrap64 (x3_2 + 1)) l0)) else (some false))) else (some false)) = some r := H
       have A13 := mkA A130
       clear A130
       by_cases c14 : t138 = true
       rotate_left
       · replace c14 := Bool.eq_false_iff.mpr c14
         subst c14
         have H1 : (some false) = some r := by rw [if_neg (show ¬ (false = true) by decide)] at H; exact H
         clear H
         have H := H1
         clear H1
         obtain rfl := Option.some.inj H
         have p128 : 0 ≤ (0 : Int) := (by omega)
         have q128 : 0 < (l0.length : Int) := dt_
         obtain ⟨ad128, A128_1, c128_1, e128, hx128_0, hx128_1, hx128_2, hx128_3, hl128_1, hi128_1⟩ := at0_T53 HR0.out q128
         cases e128
         have qi128 : (0 < l0.length) = True := eq_true (by omega)
         replace hx128_0 := bc_ HB.out hx128_0
         replace hx128_1 := bc_ HB.out hx128_1
         replace hx128_2 := bc_ HB.out hx128_2
         replace hx128_3 := bc_ HB.out hx128_3
         have HR128_1 := mkA hi128_1
         have HC128_1 := mkA hl128_1
         clear hi128_1 hl128_1
         replace p128 := eq_true p128
         replace q128 := eq_true q128
         try go_wp2
         have n0_ := mkA (below_drew1 HB.out)
         clear HB
         have HB := n0_
         clear n0_
         have p136 : 0 ≤ (0 : Int) := (by omega)
         have q136 : 0 < (l0.length : Int) := dt_
         obtain ⟨ad136, A136_1, c136_1, e136, hx136_0, hx136_1, hx136_2, hx136_3, hl136_1, hi136_1⟩ := at0_T53 HR0.out q136
         have hw136_3 := hx136_3
         have hw136_2 := hx136_2
         have hw136_1 := hx136_1
         have hw136_0 := hx136_0
         obtain rfl : ad128 = ad136 := (by injection e136)
         have qi136 : (0 < l0.length) = True := eq_true (by omega)
         replace hx136_0 := bc_ HB.out hx136_0
         replace hx136_1 := bc_ HB.out hx136_1
         replace hx136_2 := bc_ HB.out hx136_2
         replace hx136_3 := bc_ HB.out hx136_3
         have HR136_1 := mkA hi136_1
         have HC136_1 := mkA hl136_1
         clear hi136_1 hl136_1
         replace p136 := eq_true p136
         replace q136 := eq_true q136
         have p137 : 0 ≤ (x3_2 : Int) := dt_
         have q137 : x3_2 < (((rd_T53 l0 0).f1).length : Int) := dt_
         obtain ⟨ad137, e137, hx137_0, hx137_1⟩ := at_T105 HR136_1.out x3_2 p137 q137
         have hw137_1 := hx137_1
         have hw137_0 := hx137_0
         cases e137
         replace hx137_0 := bc_ HB.out hx137_0
         replace hx137_1 := bc_ HB.out hx137_1
         replace p137 := eq_true p137
         replace q137 := eq_true q137
         refine start_ (n := 45) (S := fun w' => w'.cell? ad128 = some (.string ((rd_T53 l0 0).f0)) ∧ w'.cell? ⟨ad128.block, ad128.off + 1, none⟩ = some (.slice (some ad137) ((rd_T53 l0 0).f1).length c136_1) ∧ w'.cell? ⟨ad128.block, ad128.off + 2, none⟩ = some (.int .i64 ((rd_T53 l0 0).f2)) ∧ w'.cell? ⟨ad128.block, ad128.off + 3, none⟩ = some (.bool ((rd_T53 l0 0).f3)) ∧ w'.cell? (ad137.add ((x3_2).toNat * 2)) = some (.int .i64 ((rd_T105 ((rd_T53 l0 0).f1) x3_2).f0)) ∧ w'.cell? ⟨(ad137.add ((x3_2).toNat * 2)).block, (ad137.add ((x3_2).toNat * 2)).off + 1, none⟩ = some (.int .i64 ((rd_T105 ((rd_T53 l0 0).f1) x3_2).f1))) (ds := []) spec_l19Piece.d0 (by kernel_rfl) rfl rfl ⟨(bc_ HB.out hw136_0 :), (bc_ HB.out hw136_1 :), (bc_ HB.out hw136_2 :), (bc_ HB.out hw136_3 :), (bc_ HB.out hw137_0 :), (bc_ HB.out hw137_1 :)⟩ (fun hHeld => ?_); refine with_tabW spec_l19Piece.tab6 spec_l19Piece.bits6 (fun HT_ HW_ => ?_)
         generalize wr.drew = w29 at HB HR136_1 hx136_0 hx136_1 hx136_2 hx136_3 hx137_0 hx137_1 hHeld ⊢
         refine p1_ HT_.out 0 45 spec_l19Piece.d1 ?_
         refine p1_ HT_.out 1 46 spec_l19Piece.d2 ?_
         refine p1_ HT_.out 2 47 spec_l19Piece.d3 ?_
         refine p1_ HT_.out 4 49 spec_l19Piece.d4 ?_
         refine take_ (i := 3) (N := some 48) (v := ?_) (a' := ?_) spec_l19Piece.d5 rfl rfl (take_ofW HT_.out HW_.out (by kernel_rfl)) (fun _ _ _ h => h) (Or.inl ⟨by rfl, ?_⟩) hHeld ?_ ?_
         rotate_left
         · rintro w' ⟨s0, s1, s2, s3, s4, s5⟩
           go_simp
           with_reducible rfl
         rotate_left
         · simp only [Act.put, sA, sB, sC, i64_w, i32_w]
           rfl
         refine p1_ HT_.out 5 50 spec_l19Piece.d6 ?_
         refine p1_ HT_.out 6 51 spec_l19Piece.d7 ?_
         refine take_ (i := 7) (N := some 52) (v := ?_) (a' := ?_) spec_l19Piece.d8 rfl rfl (take_ofW HT_.out HW_.out (by kernel_rfl)) (fun _ _ _ h => h) (Or.inl ⟨by rfl, ?_⟩) hHeld ?_ ?_
         rotate_left
         · rintro w' ⟨s0, s1, s2, s3, s4, s5⟩
           go_simp
           with_reducible rfl
         rotate_left
         · simp only [Act.put, sA, sB, sC, i64_w, i32_w]
           rfl
         refine one_ (i := 8) (N := some 53) spec_l19Piece.d9 rfl rfl (one_of HT_.out (by kernel_rfl)) (by decide) (fun K hK => ?_)
         refine goes_ Try.func60 (by kernel_rfl) rfl #[.int .i64 ((rd_T105 ((rd_T53 l0 0).f1) x3_2).f0), .int .i64 0, .int .i64 5] (by rfl) rfl rfl (by (try simp only [List.map_toArray, List.map_cons, List.map_nil]); first | done | rfl | (simp only [List.length_drop, List.length_take]; rfl)) ?_
         with_reducible refine (spec_l00In.calls ((rd_T105 ((rd_T53 l0 0).f1) x3_2).f0) 0 5 false _ A13.out).mono ?_
         rintro e w' ⟨rfl, ⟨nd, rfl⟩⟩
         refine ⟨_, rfl, ?_⟩
         refine hK.out _ _ ⟨(bc_ HB.out hw136_0 :), (bc_ HB.out hw136_1 :), (bc_ HB.out hw136_2 :), (bc_ HB.out hw136_3 :), (bc_ HB.out hw137_0 :), (bc_ HB.out hw137_1 :)⟩ (fun hHeld => ?_)
         clear hK K
         refine norm_ (a' := ?_) ?_ ?_
         rotate_left
         · show Act.put _ (some 53) _ = _
           simp only [Act.put, sA, sB, sC, i64_w, i32_w]
           rfl
         refine p1_ HT_.out 9 54 spec_l19Piece.d10 ?_
         refine p1_ HT_.out 10 55 spec_l19Piece.d11 ?_
         refine p0_ HT_.out 11 56 spec_l19Piece.d12 ?_
         refine p0_ HT_.out 12 57 spec_l19Piece.d13 ?_
         refine p0_ HT_.out 13 58 spec_l19Piece.d14 ?_
         refine p0_ HT_.out 14 59 spec_l19Piece.d55 ?_
         refine p0_ HT_.out 15 60 spec_l19Piece.d16 ?_
         refine p0_ HT_.out 16 61 spec_l19Piece.d17 ?_
         refine p0_ HT_.out 17 62 spec_l19Piece.d18 ?_
         refine p0_ HT_.out 18 63 spec_l19Piece.d19 ?_
         refine p0_ HT_.out 19 64 spec_l19Piece.d20 ?_
         refine p0_ HT_.out 20 65 spec_l19Piece.d21 ?_
         refine p1_ HT_.out 21 66 spec_l19Piece.d22 ?_
         refine p1_ HT_.out 22 67 spec_l19Piece.d23 ?_
         refine p0_ HT_.out 23 68 spec_l19Piece.d24 ?_
         refine p0_ HT_.out 24 69 spec_l19Piece.d25 ?_
         refine p0_ HT_.out 25 70 spec_l19Piece.d26 ?_
         refine p0_ HT_.out 26 71 spec_l19Piece.d27 ?_
         refine p0_ HT_.out 27 72 spec_l19Piece.d28 ?_
         refine p0_ HT_.out 28 73 spec_l19Piece.d29 ?_
         refine p0_ HT_.out 29 74 spec_l19Piece.d46 ?_
         refine p0_ HT_.out 30 75 spec_l19Piece.d47 ?_
         refine p0_ HT_.out 31 76 spec_l19Piece.d48 ?_
         refine p0_ HT_.out 32 77 spec_l19Piece.d49 ?_
         refine p0_ HT_.out 33 78 spec_l19Piece.d50 ?_
         refine p0_ HT_.out 34 79 spec_l19Piece.d51 ?_
         refine p0_ HT_.out 35 80 spec_l19Piece.d52 ?_
         refine p0_ HT_.out 36 81 spec_l19Piece.d53 ?_
         refine p0_ HT_.out 37 82 spec_l19Piece.d54 ?_
         refine p0_ HT_.out 38 83 spec_l19Piece.d39 ?_
         refine p0_ HT_.out 39 84 spec_l19Piece.d40 ?_
         refine p0_ HT_.out 40 85 spec_l19Piece.d41 ?_
         refine p0_ HT_.out 41 86 spec_l19Piece.d42 ?_
         refine p0_ HT_.out 42 87 spec_l19Piece.d43 ?_
         refine p0_ HT_.out 43 88 spec_l19Piece.d44 ?_
         refine p1_ HT_.out 44 89 spec_l19Piece.d45 ?_
         refine done_ (done_of HT_.out (by kernel_rfl)) ?_
         try go_wp2
         go_ret
         exact ⟨by first | rfl | (simp [errW_none, errW_some] <;> rfl) | (simp [*, errW_none, errW_some] <;> rfl), by repeat (first | (with_reducible first | exact HB.out | apply below_alloc | apply pw_below_drewN | apply below_drew1) | exact HB.out)⟩
       subst c14
       have H1 : ((spec_l00In.f ((rd_T105 ((rd_T53 l0 0).f1) x3_2).f1) 0 5).bind fun t141 => (if t141 = true then (if x3_2 > 0 then (if 0 ≤ (wrap64 (x3_2 - 1)) then (if (wrap64 (x3_2 - 1)) < (((rd_T53 l0 0).f1).length : Int) then ((spec_l19Before.f ((rd_T105 ((rd_T53 l0 0).f1) (wrap64 (x3_2 - 1))).f0) ((rd_T105 ((rd_T53 l0 0).f1) (wrap64 (x3_2 - 1))).f1) ((rd_T105 ((rd_T53 l0 0).f1) x3_2).f0) ((rd_T105 ((rd_T53 l0 0).f1) x3_2).f1)).bind fun t146 => (if t146 = true then (spec_l19Piece.l0 k2 (wrap64 (x3_2 + 1)) l0) else (some false))) else (none)) else (none)) else (spec_l19Piece.l0 k2 (wrap64 (x3_2 + 1)) l0)) else (some false))) = some r := by rw [if_pos rfl] at H; exact H
       clear H
       have H := H1
       clear H1
       replace H := Option.bind_eq_some_iff.mp H
       obtain ⟨t141, A150, H⟩ := H
       replace H : (if t141 = true then (if x3_2 > 0 then (if 0 ≤ (wrap64 (x3_2 - 1)) then (if (wrap64 (x3_2 - 1)) < (((rd_T53 l0 0).f1).length : Int) then ((spec_l19Before.f ((rd_T105 ((rd_T53 l0 0).f1) (wrap64 (x3_2 - 1))).f0) ((rd_T105 ((rd_T53 l0 0).f1) (wrap64 (x3_2 - 1))).f1) ((rd_T105 ((rd_T53 l0 0).f1) x3_2).f0) ((rd_T105 ((rd_T53 l0 0).f1) x3_2).f1)).bind fun t146 => (if t146 = true then (spec_l19Piece.l0 k2 (wrap64 (x3_2 + 1)) l0) else (some false))) else (none)) else (none)) else (spec_l19Piece.l0 k2 (wrap64 (x3_2 + 1)) l0)) else (some false)) = some r := H
       have A15 := mkA A150
       clear A150
       by_cases c16 : t141 = true
       rotate_left
       · replace c16 := Bool.eq_false_iff.mpr c16
         subst c16
         have H1 : (some false) = some r := by rw [if_neg (show ¬ (false = true) by decide)] at H; exact H
         clear H
         have H := H1
         clear H1
         obtain rfl := Option.some.inj H
         have p128 : 0 ≤ (0 : Int) := (by omega)
         have q128 : 0 < (l0.length : Int) := dt_
         obtain ⟨ad128, A128_1, c128_1, e128, hx128_0, hx128_1, hx128_2, hx128_3, hl128_1, hi128_1⟩ := at0_T53 HR0.out q128
         cases e128
         have qi128 : (0 < l0.length) = True := eq_true (by omega)
         replace hx128_0 := bc_ HB.out hx128_0
         replace hx128_1 := bc_ HB.out hx128_1
         replace hx128_2 := bc_ HB.out hx128_2
         replace hx128_3 := bc_ HB.out hx128_3
         have HR128_1 := mkA hi128_1
         have HC128_1 := mkA hl128_1
         clear hi128_1 hl128_1
         replace p128 := eq_true p128
         replace q128 := eq_true q128
         try go_wp2
         have n0_ := mkA (below_drew1 HB.out)
         clear HB
         have HB := n0_
         clear n0_
         have p136 : 0 ≤ (0 : Int) := (by omega)
         have q136 : 0 < (l0.length : Int) := dt_
         obtain ⟨ad136, A136_1, c136_1, e136, hx136_0, hx136_1, hx136_2, hx136_3, hl136_1, hi136_1⟩ := at0_T53 HR0.out q136
         have hw136_3 := hx136_3
         have hw136_2 := hx136_2
         have hw136_1 := hx136_1
         have hw136_0 := hx136_0
         obtain rfl : ad128 = ad136 := (by injection e136)
         have qi136 : (0 < l0.length) = True := eq_true (by omega)
         replace hx136_0 := bc_ HB.out hx136_0
         replace hx136_1 := bc_ HB.out hx136_1
         replace hx136_2 := bc_ HB.out hx136_2
         replace hx136_3 := bc_ HB.out hx136_3
         have HR136_1 := mkA hi136_1
         have HC136_1 := mkA hl136_1
         clear hi136_1 hl136_1
         replace p136 := eq_true p136
         replace q136 := eq_true q136
         have p137 : 0 ≤ (x3_2 : Int) := dt_
         have q137 : x3_2 < (((rd_T53 l0 0).f1).length : Int) := dt_
         obtain ⟨ad137, e137, hx137_0, hx137_1⟩ := at_T105 HR136_1.out x3_2 p137 q137
         have hw137_1 := hx137_1
         have hw137_0 := hx137_0
         cases e137
         replace hx137_0 := bc_ HB.out hx137_0
         replace hx137_1 := bc_ HB.out hx137_1
         replace p137 := eq_true p137
         replace q137 := eq_true q137
         have p139 : 0 ≤ (0 : Int) := (by omega)
         have q139 : 0 < (l0.length : Int) := dt_
         obtain ⟨ad139, A139_1, c139_1, e139, hx139_0, hx139_1, hx139_2, hx139_3, hl139_1, hi139_1⟩ := at0_T53 HR0.out q139
         have hw139_3 := hx139_3
         have hw139_2 := hx139_2
         have hw139_1 := hx139_1
         have hw139_0 := hx139_0
         obtain rfl : ad128 = ad139 := (by injection e139)
         have qi139 : (0 < l0.length) = True := eq_true (by omega)
         replace hx139_0 := bc_ HB.out hx139_0
         replace hx139_1 := bc_ HB.out hx139_1
         replace hx139_2 := bc_ HB.out hx139_2
         replace hx139_3 := bc_ HB.out hx139_3
         have HR139_1 := mkA hi139_1
         have HC139_1 := mkA hl139_1
         clear hi139_1 hl139_1
         replace p139 := eq_true p139
         replace q139 := eq_true q139
         have ea_ := Option.some.inj (hx136_1.symm.trans hx139_1)
         injection ea_ with ea_ en_ ec_
         subst ea_
         subst ec_
         clear en_
         have p140 : 0 ≤ (x3_2 : Int) := dt_
         have q140 : x3_2 < (((rd_T53 l0 0).f1).length : Int) := dt_
         obtain ⟨ad140, e140, hx140_0, hx140_1⟩ := at_T105 HR139_1.out x3_2 p140 q140
         have hw140_1 := hx140_1
         have hw140_0 := hx140_0
         obtain rfl : ad137 = ad140 := (by injection e140)
         replace hx140_0 := bc_ HB.out hx140_0
         replace hx140_1 := bc_ HB.out hx140_1
         replace p140 := eq_true p140
         replace q140 := eq_true q140
         refine start_ (n := 45) (S := fun w' => w'.cell? ad128 = some (.string ((rd_T53 l0 0).f0)) ∧ w'.cell? ⟨ad128.block, ad128.off + 1, none⟩ = some (.slice (some ad137) ((rd_T53 l0 0).f1).length c136_1) ∧ w'.cell? ⟨ad128.block, ad128.off + 2, none⟩ = some (.int .i64 ((rd_T53 l0 0).f2)) ∧ w'.cell? ⟨ad128.block, ad128.off + 3, none⟩ = some (.bool ((rd_T53 l0 0).f3)) ∧ w'.cell? (ad137.add ((x3_2).toNat * 2)) = some (.int .i64 ((rd_T105 ((rd_T53 l0 0).f1) x3_2).f0)) ∧ w'.cell? ⟨(ad137.add ((x3_2).toNat * 2)).block, (ad137.add ((x3_2).toNat * 2)).off + 1, none⟩ = some (.int .i64 ((rd_T105 ((rd_T53 l0 0).f1) x3_2).f1)) ∧ w'.cell? ad128 = some (.string ((rd_T53 l0 0).f0)) ∧ w'.cell? ⟨ad128.block, ad128.off + 1, none⟩ = some (.slice (some ad137) ((rd_T53 l0 0).f1).length c136_1) ∧ w'.cell? ⟨ad128.block, ad128.off + 2, none⟩ = some (.int .i64 ((rd_T53 l0 0).f2)) ∧ w'.cell? ⟨ad128.block, ad128.off + 3, none⟩ = some (.bool ((rd_T53 l0 0).f3)) ∧ w'.cell? (ad137.add ((x3_2).toNat * 2)) = some (.int .i64 ((rd_T105 ((rd_T53 l0 0).f1) x3_2).f0)) ∧ w'.cell? ⟨(ad137.add ((x3_2).toNat * 2)).block, (ad137.add ((x3_2).toNat * 2)).off + 1, none⟩ = some (.int .i64 ((rd_T105 ((rd_T53 l0 0).f1) x3_2).f1))) (ds := []) spec_l19Piece.d0 (by kernel_rfl) rfl rfl ⟨(bc_ HB.out hw136_0 :), (bc_ HB.out hw136_1 :), (bc_ HB.out hw136_2 :), (bc_ HB.out hw136_3 :), (bc_ HB.out hw137_0 :), (bc_ HB.out hw137_1 :), (bc_ HB.out hw139_0 :), (bc_ HB.out hw139_1 :), (bc_ HB.out hw139_2 :), (bc_ HB.out hw139_3 :), (bc_ HB.out hw140_0 :), (bc_ HB.out hw140_1 :)⟩ (fun hHeld => ?_); refine with_tabW spec_l19Piece.tab6 spec_l19Piece.bits6 (fun HT_ HW_ => ?_)
         generalize wr.drew = w28 at HB HR136_1 HR139_1 hx136_0 hx136_1 hx136_2 hx136_3 hx137_0 hx137_1 hx139_0 hx139_1 hx139_2 hx139_3 hx140_0 hx140_1 hHeld ⊢
         refine p1_ HT_.out 0 45 spec_l19Piece.d1 ?_
         refine p1_ HT_.out 1 46 spec_l19Piece.d2 ?_
         refine p1_ HT_.out 2 47 spec_l19Piece.d3 ?_
         refine p1_ HT_.out 4 49 spec_l19Piece.d4 ?_
         refine take_ (i := 3) (N := some 48) (v := ?_) (a' := ?_) spec_l19Piece.d5 rfl rfl (take_ofW HT_.out HW_.out (by kernel_rfl)) (fun _ _ _ h => h) (Or.inl ⟨by rfl, ?_⟩) hHeld ?_ ?_
         rotate_left
         · rintro w' ⟨s0, s1, s2, s3, s4, s5, s6, s7, s8, s9, s10, s11⟩
           go_simp
           with_reducible rfl
         rotate_left
         · simp only [Act.put, sA, sB, sC, i64_w, i32_w]
           rfl
         refine p1_ HT_.out 5 50 spec_l19Piece.d6 ?_
         refine p1_ HT_.out 6 51 spec_l19Piece.d7 ?_
         refine take_ (i := 7) (N := some 52) (v := ?_) (a' := ?_) spec_l19Piece.d8 rfl rfl (take_ofW HT_.out HW_.out (by kernel_rfl)) (fun _ _ _ h => h) (Or.inl ⟨by rfl, ?_⟩) hHeld ?_ ?_
         rotate_left
         · rintro w' ⟨s0, s1, s2, s3, s4, s5, s6, s7, s8, s9, s10, s11⟩
           go_simp
           with_reducible rfl
         rotate_left
         · simp only [Act.put, sA, sB, sC, i64_w, i32_w]
           rfl
         refine one_ (i := 8) (N := some 53) spec_l19Piece.d9 rfl rfl (one_of HT_.out (by kernel_rfl)) (by decide) (fun K hK => ?_)
         refine goes_ Try.func60 (by kernel_rfl) rfl #[.int .i64 ((rd_T105 ((rd_T53 l0 0).f1) x3_2).f0), .int .i64 0, .int .i64 5] (by rfl) rfl rfl (by (try simp only [List.map_toArray, List.map_cons, List.map_nil]); first | done | rfl | (simp only [List.length_drop, List.length_take]; rfl)) ?_
         with_reducible refine (spec_l00In.calls ((rd_T105 ((rd_T53 l0 0).f1) x3_2).f0) 0 5 true _ A13.out).mono ?_
         rintro e w' ⟨rfl, ⟨nd, rfl⟩⟩
         refine ⟨_, rfl, ?_⟩
         refine hK.out _ _ ⟨(bc_ HB.out hw136_0 :), (bc_ HB.out hw136_1 :), (bc_ HB.out hw136_2 :), (bc_ HB.out hw136_3 :), (bc_ HB.out hw137_0 :), (bc_ HB.out hw137_1 :), (bc_ HB.out hw139_0 :), (bc_ HB.out hw139_1 :), (bc_ HB.out hw139_2 :), (bc_ HB.out hw139_3 :), (bc_ HB.out hw140_0 :), (bc_ HB.out hw140_1 :)⟩ (fun hHeld => ?_)
         clear hK K
         refine norm_ (a' := ?_) ?_ ?_
         rotate_left
         · show Act.put _ (some 53) _ = _
           simp only [Act.put, sA, sB, sC, i64_w, i32_w]
           rfl
         refine p1_ HT_.out 9 54 spec_l19Piece.d10 ?_
         refine p1_ HT_.out 10 55 spec_l19Piece.d11 ?_
         refine p1_ HT_.out 11 56 spec_l19Piece.d12 ?_
         refine p1_ HT_.out 12 57 spec_l19Piece.d13 ?_
         refine p1_ HT_.out 13 58 spec_l19Piece.d14 ?_
         refine p1_ HT_.out 15 60 spec_l19Piece.d15 ?_
         refine take_ (i := 14) (N := some 59) (v := ?_) (a' := ?_) spec_l19Piece.d16 rfl rfl (take_ofW HT_.out HW_.out (by kernel_rfl)) (fun _ _ _ h => h) (Or.inl ⟨by rfl, ?_⟩) hHeld ?_ ?_
         rotate_left
         · rintro w' ⟨s0, s1, s2, s3, s4, s5, s6, s7, s8, s9, s10, s11⟩
           go_simp
           with_reducible rfl
         rotate_left
         · simp only [Act.put, sA, sB, sC, i64_w, i32_w]
           rfl
         refine p1_ HT_.out 16 61 spec_l19Piece.d17 ?_
         refine p1_ HT_.out 17 62 spec_l19Piece.d18 ?_
         refine take_ (i := 18) (N := some 63) (v := ?_) (a' := ?_) spec_l19Piece.d19 rfl rfl (take_ofW HT_.out HW_.out (by kernel_rfl)) (fun _ _ _ h => h) (Or.inl ⟨by rfl, ?_⟩) hHeld ?_ ?_
         rotate_left
         · rintro w' ⟨s0, s1, s2, s3, s4, s5, s6, s7, s8, s9, s10, s11⟩
           go_simp
           with_reducible rfl
         rotate_left
         · simp only [Act.put, sA, sB, sC, i64_w, i32_w]
           rfl
         refine one_ (i := 19) (N := some 64) spec_l19Piece.d20 rfl rfl (one_of HT_.out (by kernel_rfl)) (by decide) (fun K hK => ?_)
         refine goes_ Try.func60 (by kernel_rfl) rfl #[.int .i64 ((rd_T105 ((rd_T53 l0 0).f1) x3_2).f1), .int .i64 0, .int .i64 5] (by rfl) rfl rfl (by (try simp only [List.map_toArray, List.map_cons, List.map_nil]); first | done | rfl | (simp only [List.length_drop, List.length_take]; rfl)) ?_
         with_reducible refine (spec_l00In.calls ((rd_T105 ((rd_T53 l0 0).f1) x3_2).f1) 0 5 false _ A15.out).mono ?_
         rintro e w' ⟨rfl, ⟨nd, rfl⟩⟩
         refine ⟨_, rfl, ?_⟩
         refine hK.out _ _ ⟨(bc_ HB.out hw136_0 :), (bc_ HB.out hw136_1 :), (bc_ HB.out hw136_2 :), (bc_ HB.out hw136_3 :), (bc_ HB.out hw137_0 :), (bc_ HB.out hw137_1 :), (bc_ HB.out hw139_0 :), (bc_ HB.out hw139_1 :), (bc_ HB.out hw139_2 :), (bc_ HB.out hw139_3 :), (bc_ HB.out hw140_0 :), (bc_ HB.out hw140_1 :)⟩ (fun hHeld => ?_)
         clear hK K
         refine norm_ (a' := ?_) ?_ ?_
         rotate_left
         · show Act.put _ (some 64) _ = _
           simp only [Act.put, sA, sB, sC, i64_w, i32_w]
           rfl
         refine p1_ HT_.out 20 65 spec_l19Piece.d21 ?_
         refine p1_ HT_.out 21 66 spec_l19Piece.d22 ?_
         refine p1_ HT_.out 22 67 spec_l19Piece.d23 ?_
         refine p0_ HT_.out 23 68 spec_l19Piece.d24 ?_
         refine p0_ HT_.out 24 69 spec_l19Piece.d25 ?_
         refine p0_ HT_.out 25 70 spec_l19Piece.d26 ?_
         refine p0_ HT_.out 26 71 spec_l19Piece.d27 ?_
         refine p0_ HT_.out 27 72 spec_l19Piece.d28 ?_
         refine p0_ HT_.out 28 73 spec_l19Piece.d29 ?_
         refine p0_ HT_.out 29 74 spec_l19Piece.d46 ?_
         refine p0_ HT_.out 30 75 spec_l19Piece.d47 ?_
         refine p0_ HT_.out 31 76 spec_l19Piece.d48 ?_
         refine p0_ HT_.out 32 77 spec_l19Piece.d49 ?_
         refine p0_ HT_.out 33 78 spec_l19Piece.d50 ?_
         refine p0_ HT_.out 34 79 spec_l19Piece.d51 ?_
         refine p0_ HT_.out 35 80 spec_l19Piece.d52 ?_
         refine p0_ HT_.out 36 81 spec_l19Piece.d53 ?_
         refine p0_ HT_.out 37 82 spec_l19Piece.d54 ?_
         refine p0_ HT_.out 38 83 spec_l19Piece.d39 ?_
         refine p0_ HT_.out 39 84 spec_l19Piece.d40 ?_
         refine p0_ HT_.out 40 85 spec_l19Piece.d41 ?_
         refine p0_ HT_.out 41 86 spec_l19Piece.d42 ?_
         refine p0_ HT_.out 42 87 spec_l19Piece.d43 ?_
         refine p0_ HT_.out 43 88 spec_l19Piece.d44 ?_
         refine p1_ HT_.out 44 89 spec_l19Piece.d45 ?_
         refine done_ (done_of HT_.out (by kernel_rfl)) ?_
         try go_wp2
         go_ret
         exact ⟨by first | rfl | (simp [errW_none, errW_some] <;> rfl) | (simp [*, errW_none, errW_some] <;> rfl), by repeat (first | (with_reducible first | exact HB.out | apply below_alloc | apply pw_below_drewN | apply below_drew1) | exact HB.out)⟩
       subst c16
       have H1 : (if x3_2 > 0 then (if 0 ≤ (wrap64 (x3_2 - 1)) then (if (wrap64 (x3_2 - 1)) < (((rd_T53 l0 0).f1).length : Int) then ((spec_l19Before.f ((rd_T105 ((rd_T53 l0 0).f1) (wrap64 (x3_2 - 1))).f0) ((rd_T105 ((rd_T53 l0 0).f1) (wrap64 (x3_2 - 1))).f1) ((rd_T105 ((rd_T53 l0 0).f1) x3_2).f0) ((rd_T105 ((rd_T53 l0 0).f1) x3_2).f1)).bind fun t146 => (if t146 = true then (spec_l19Piece.l0 k2 (wrap64 (x3_2 + 1)) l0) else (some false))) else (none)) else (none)) else (spec_l19Piece.l0 k2 (wrap64 (x3_2 + 1)) l0)) = some r := by rw [if_pos rfl] at H; exact H
       clear H
       have H := H1
       clear H1
       by_cases c17 : x3_2 > 0
       rotate_left
       · rw [if_neg c17] at H
         have c17b0 : decide (0 < x3_2) = false := decide_eq_false c17
         clear c17
         have H' := mkA H
         clear H
         have p128 : 0 ≤ (0 : Int) := (by omega)
         have q128 : 0 < (l0.length : Int) := dt_
         obtain ⟨ad128, A128_1, c128_1, e128, hx128_0, hx128_1, hx128_2, hx128_3, hl128_1, hi128_1⟩ := at0_T53 HR0.out q128
         cases e128
         have qi128 : (0 < l0.length) = True := eq_true (by omega)
         replace hx128_0 := bc_ HB.out hx128_0
         replace hx128_1 := bc_ HB.out hx128_1
         replace hx128_2 := bc_ HB.out hx128_2
         replace hx128_3 := bc_ HB.out hx128_3
         have HR128_1 := mkA hi128_1
         have HC128_1 := mkA hl128_1
         clear hi128_1 hl128_1
         replace p128 := eq_true p128
         replace q128 := eq_true q128
         try go_wp2
         have n0_ := mkA (below_drew1 HB.out)
         clear HB
         have HB := n0_
         clear n0_
         have p136 : 0 ≤ (0 : Int) := (by omega)
         have q136 : 0 < (l0.length : Int) := dt_
         obtain ⟨ad136, A136_1, c136_1, e136, hx136_0, hx136_1, hx136_2, hx136_3, hl136_1, hi136_1⟩ := at0_T53 HR0.out q136
         have hw136_3 := hx136_3
         have hw136_2 := hx136_2
         have hw136_1 := hx136_1
         have hw136_0 := hx136_0
         obtain rfl : ad128 = ad136 := (by injection e136)
         have qi136 : (0 < l0.length) = True := eq_true (by omega)
         replace hx136_0 := bc_ HB.out hx136_0
         replace hx136_1 := bc_ HB.out hx136_1
         replace hx136_2 := bc_ HB.out hx136_2
         replace hx136_3 := bc_ HB.out hx136_3
         have HR136_1 := mkA hi136_1
         have HC136_1 := mkA hl136_1
         clear hi136_1 hl136_1
         replace p136 := eq_true p136
         replace q136 := eq_true q136
         have p137 : 0 ≤ (x3_2 : Int) := dt_
         have q137 : x3_2 < (((rd_T53 l0 0).f1).length : Int) := dt_
         obtain ⟨ad137, e137, hx137_0, hx137_1⟩ := at_T105 HR136_1.out x3_2 p137 q137
         have hw137_1 := hx137_1
         have hw137_0 := hx137_0
         cases e137
         replace hx137_0 := bc_ HB.out hx137_0
         replace hx137_1 := bc_ HB.out hx137_1
         replace p137 := eq_true p137
         replace q137 := eq_true q137
         have p139 : 0 ≤ (0 : Int) := (by omega)
         have q139 : 0 < (l0.length : Int) := dt_
         obtain ⟨ad139, A139_1, c139_1, e139, hx139_0, hx139_1, hx139_2, hx139_3, hl139_1, hi139_1⟩ := at0_T53 HR0.out q139
         have hw139_3 := hx139_3
         have hw139_2 := hx139_2
         have hw139_1 := hx139_1
         have hw139_0 := hx139_0
         obtain rfl : ad128 = ad139 := (by injection e139)
         have qi139 : (0 < l0.length) = True := eq_true (by omega)
         replace hx139_0 := bc_ HB.out hx139_0
         replace hx139_1 := bc_ HB.out hx139_1
         replace hx139_2 := bc_ HB.out hx139_2
         replace hx139_3 := bc_ HB.out hx139_3
         have HR139_1 := mkA hi139_1
         have HC139_1 := mkA hl139_1
         clear hi139_1 hl139_1
         replace p139 := eq_true p139
         replace q139 := eq_true q139
         have ea_ := Option.some.inj (hx136_1.symm.trans hx139_1)
         injection ea_ with ea_ en_ ec_
         subst ea_
         subst ec_
         clear en_
         have p140 : 0 ≤ (x3_2 : Int) := dt_
         have q140 : x3_2 < (((rd_T53 l0 0).f1).length : Int) := dt_
         obtain ⟨ad140, e140, hx140_0, hx140_1⟩ := at_T105 HR139_1.out x3_2 p140 q140
         have hw140_1 := hx140_1
         have hw140_0 := hx140_0
         obtain rfl : ad137 = ad140 := (by injection e140)
         replace hx140_0 := bc_ HB.out hx140_0
         replace hx140_1 := bc_ HB.out hx140_1
         replace p140 := eq_true p140
         replace q140 := eq_true q140
         refine start_ (n := 45) (S := fun w' => w'.cell? ad128 = some (.string ((rd_T53 l0 0).f0)) ∧ w'.cell? ⟨ad128.block, ad128.off + 1, none⟩ = some (.slice (some ad137) ((rd_T53 l0 0).f1).length c136_1) ∧ w'.cell? ⟨ad128.block, ad128.off + 2, none⟩ = some (.int .i64 ((rd_T53 l0 0).f2)) ∧ w'.cell? ⟨ad128.block, ad128.off + 3, none⟩ = some (.bool ((rd_T53 l0 0).f3)) ∧ w'.cell? (ad137.add ((x3_2).toNat * 2)) = some (.int .i64 ((rd_T105 ((rd_T53 l0 0).f1) x3_2).f0)) ∧ w'.cell? ⟨(ad137.add ((x3_2).toNat * 2)).block, (ad137.add ((x3_2).toNat * 2)).off + 1, none⟩ = some (.int .i64 ((rd_T105 ((rd_T53 l0 0).f1) x3_2).f1)) ∧ w'.cell? ad128 = some (.string ((rd_T53 l0 0).f0)) ∧ w'.cell? ⟨ad128.block, ad128.off + 1, none⟩ = some (.slice (some ad137) ((rd_T53 l0 0).f1).length c136_1) ∧ w'.cell? ⟨ad128.block, ad128.off + 2, none⟩ = some (.int .i64 ((rd_T53 l0 0).f2)) ∧ w'.cell? ⟨ad128.block, ad128.off + 3, none⟩ = some (.bool ((rd_T53 l0 0).f3)) ∧ w'.cell? (ad137.add ((x3_2).toNat * 2)) = some (.int .i64 ((rd_T105 ((rd_T53 l0 0).f1) x3_2).f0)) ∧ w'.cell? ⟨(ad137.add ((x3_2).toNat * 2)).block, (ad137.add ((x3_2).toNat * 2)).off + 1, none⟩ = some (.int .i64 ((rd_T105 ((rd_T53 l0 0).f1) x3_2).f1))) (ds := []) spec_l19Piece.d0 (by kernel_rfl) rfl rfl ⟨(bc_ HB.out hw136_0 :), (bc_ HB.out hw136_1 :), (bc_ HB.out hw136_2 :), (bc_ HB.out hw136_3 :), (bc_ HB.out hw137_0 :), (bc_ HB.out hw137_1 :), (bc_ HB.out hw139_0 :), (bc_ HB.out hw139_1 :), (bc_ HB.out hw139_2 :), (bc_ HB.out hw139_3 :), (bc_ HB.out hw140_0 :), (bc_ HB.out hw140_1 :)⟩ (fun hHeld => ?_); refine with_tabW spec_l19Piece.tab6 spec_l19Piece.bits6 (fun HT_ HW_ => ?_)
         generalize wr.drew = w27 at HB HR136_1 HR139_1 hx136_0 hx136_1 hx136_2 hx136_3 hx137_0 hx137_1 hx139_0 hx139_1 hx139_2 hx139_3 hx140_0 hx140_1 hHeld ⊢
         refine p1_ HT_.out 0 45 spec_l19Piece.d1 ?_
         refine p1_ HT_.out 1 46 spec_l19Piece.d2 ?_
         refine p1_ HT_.out 2 47 spec_l19Piece.d3 ?_
         refine p1_ HT_.out 4 49 spec_l19Piece.d4 ?_
         refine take_ (i := 3) (N := some 48) (v := ?_) (a' := ?_) spec_l19Piece.d5 rfl rfl (take_ofW HT_.out HW_.out (by kernel_rfl)) (fun _ _ _ h => h) (Or.inl ⟨by rfl, ?_⟩) hHeld ?_ ?_
         rotate_left
         · rintro w' ⟨s0, s1, s2, s3, s4, s5, s6, s7, s8, s9, s10, s11⟩
           go_simp
           with_reducible rfl
         rotate_left
         · simp only [Act.put, sA, sB, sC, i64_w, i32_w]
           rfl
         refine p1_ HT_.out 5 50 spec_l19Piece.d6 ?_
         refine p1_ HT_.out 6 51 spec_l19Piece.d7 ?_
         refine take_ (i := 7) (N := some 52) (v := ?_) (a' := ?_) spec_l19Piece.d8 rfl rfl (take_ofW HT_.out HW_.out (by kernel_rfl)) (fun _ _ _ h => h) (Or.inl ⟨by rfl, ?_⟩) hHeld ?_ ?_
         rotate_left
         · rintro w' ⟨s0, s1, s2, s3, s4, s5, s6, s7, s8, s9, s10, s11⟩
           go_simp
           with_reducible rfl
         rotate_left
         · simp only [Act.put, sA, sB, sC, i64_w, i32_w]
           rfl
         refine one_ (i := 8) (N := some 53) spec_l19Piece.d9 rfl rfl (one_of HT_.out (by kernel_rfl)) (by decide) (fun K hK => ?_)
         refine goes_ Try.func60 (by kernel_rfl) rfl #[.int .i64 ((rd_T105 ((rd_T53 l0 0).f1) x3_2).f0), .int .i64 0, .int .i64 5] (by rfl) rfl rfl (by (try simp only [List.map_toArray, List.map_cons, List.map_nil]); first | done | rfl | (simp only [List.length_drop, List.length_take]; rfl)) ?_
         with_reducible refine (spec_l00In.calls ((rd_T105 ((rd_T53 l0 0).f1) x3_2).f0) 0 5 true _ A13.out).mono ?_
         rintro e w' ⟨rfl, ⟨nd, rfl⟩⟩
         refine ⟨_, rfl, ?_⟩
         refine hK.out _ _ ⟨(bc_ HB.out hw136_0 :), (bc_ HB.out hw136_1 :), (bc_ HB.out hw136_2 :), (bc_ HB.out hw136_3 :), (bc_ HB.out hw137_0 :), (bc_ HB.out hw137_1 :), (bc_ HB.out hw139_0 :), (bc_ HB.out hw139_1 :), (bc_ HB.out hw139_2 :), (bc_ HB.out hw139_3 :), (bc_ HB.out hw140_0 :), (bc_ HB.out hw140_1 :)⟩ (fun hHeld => ?_)
         clear hK K
         refine norm_ (a' := ?_) ?_ ?_
         rotate_left
         · show Act.put _ (some 53) _ = _
           simp only [Act.put, sA, sB, sC, i64_w, i32_w]
           rfl
         refine p1_ HT_.out 9 54 spec_l19Piece.d10 ?_
         refine p1_ HT_.out 10 55 spec_l19Piece.d11 ?_
         refine p1_ HT_.out 11 56 spec_l19Piece.d12 ?_
         refine p1_ HT_.out 12 57 spec_l19Piece.d13 ?_
         refine p1_ HT_.out 13 58 spec_l19Piece.d14 ?_
         refine p1_ HT_.out 15 60 spec_l19Piece.d15 ?_
         refine take_ (i := 14) (N := some 59) (v := ?_) (a' := ?_) spec_l19Piece.d16 rfl rfl (take_ofW HT_.out HW_.out (by kernel_rfl)) (fun _ _ _ h => h) (Or.inl ⟨by rfl, ?_⟩) hHeld ?_ ?_
         rotate_left
         · rintro w' ⟨s0, s1, s2, s3, s4, s5, s6, s7, s8, s9, s10, s11⟩
           go_simp
           with_reducible rfl
         rotate_left
         · simp only [Act.put, sA, sB, sC, i64_w, i32_w]
           rfl
         refine p1_ HT_.out 16 61 spec_l19Piece.d17 ?_
         refine p1_ HT_.out 17 62 spec_l19Piece.d18 ?_
         refine take_ (i := 18) (N := some 63) (v := ?_) (a' := ?_) spec_l19Piece.d19 rfl rfl (take_ofW HT_.out HW_.out (by kernel_rfl)) (fun _ _ _ h => h) (Or.inl ⟨by rfl, ?_⟩) hHeld ?_ ?_
         rotate_left
         · rintro w' ⟨s0, s1, s2, s3, s4, s5, s6, s7, s8, s9, s10, s11⟩
           go_simp
           with_reducible rfl
         rotate_left
         · simp only [Act.put, sA, sB, sC, i64_w, i32_w]
           rfl
         refine one_ (i := 19) (N := some 64) spec_l19Piece.d20 rfl rfl (one_of HT_.out (by kernel_rfl)) (by decide) (fun K hK => ?_)
         refine goes_ Try.func60 (by kernel_rfl) rfl #[.int .i64 ((rd_T105 ((rd_T53 l0 0).f1) x3_2).f1), .int .i64 0, .int .i64 5] (by rfl) rfl rfl (by (try simp only [List.map_toArray, List.map_cons, List.map_nil]); first | done | rfl | (simp only [List.length_drop, List.length_take]; rfl)) ?_
         with_reducible refine (spec_l00In.calls ((rd_T105 ((rd_T53 l0 0).f1) x3_2).f1) 0 5 true _ A15.out).mono ?_
         rintro e w' ⟨rfl, ⟨nd, rfl⟩⟩
         refine ⟨_, rfl, ?_⟩
         refine hK.out _ _ ⟨(bc_ HB.out hw136_0 :), (bc_ HB.out hw136_1 :), (bc_ HB.out hw136_2 :), (bc_ HB.out hw136_3 :), (bc_ HB.out hw137_0 :), (bc_ HB.out hw137_1 :), (bc_ HB.out hw139_0 :), (bc_ HB.out hw139_1 :), (bc_ HB.out hw139_2 :), (bc_ HB.out hw139_3 :), (bc_ HB.out hw140_0 :), (bc_ HB.out hw140_1 :)⟩ (fun hHeld => ?_)
         clear hK K
         refine norm_ (a' := ?_) ?_ ?_
         rotate_left
         · show Act.put _ (some 64) _ = _
           simp only [Act.put, sA, sB, sC, i64_w, i32_w]
           rfl
         refine p1_ HT_.out 20 65 spec_l19Piece.d21 ?_
         refine p1_ HT_.out 21 66 spec_l19Piece.d22 ?_
         refine p1_ HT_.out 22 67 spec_l19Piece.d23 ?_
         refine p1_ HT_.out 23 68 spec_l19Piece.d24 ?_
         refine p1_ HT_.out 24 69 spec_l19Piece.d25 ?_
         refine p1_ HT_.out 25 70 spec_l19Piece.d26 ?_
         refine p0_ HT_.out 26 71 spec_l19Piece.d27 ?_
         refine p0_ HT_.out 27 72 spec_l19Piece.d28 ?_
         refine p0_ HT_.out 28 73 spec_l19Piece.d29 ?_
         refine p0_ HT_.out 29 74 spec_l19Piece.d46 ?_
         refine p0_ HT_.out 30 75 spec_l19Piece.d47 ?_
         refine p0_ HT_.out 31 76 spec_l19Piece.d48 ?_
         refine p0_ HT_.out 32 77 spec_l19Piece.d49 ?_
         refine p0_ HT_.out 33 78 spec_l19Piece.d50 ?_
         refine p0_ HT_.out 34 79 spec_l19Piece.d51 ?_
         refine p0_ HT_.out 35 80 spec_l19Piece.d52 ?_
         refine p0_ HT_.out 36 81 spec_l19Piece.d53 ?_
         refine p0_ HT_.out 37 82 spec_l19Piece.d54 ?_
         refine p0_ HT_.out 38 83 spec_l19Piece.d39 ?_
         refine p0_ HT_.out 39 84 spec_l19Piece.d40 ?_
         refine p0_ HT_.out 40 85 spec_l19Piece.d41 ?_
         refine p0_ HT_.out 41 86 spec_l19Piece.d42 ?_
         refine p0_ HT_.out 42 87 spec_l19Piece.d43 ?_
         refine p1_ HT_.out 43 88 spec_l19Piece.d44 ?_
         refine p1_ HT_.out 44 89 spec_l19Piece.d45 ?_
         refine done_ (done_of HT_.out (by kernel_rfl)) ?_
         try go_wp2
         go_roundg k2
         case measure => have := HJ1.out; have := HK2.out; omega
         case rel => exact ⟨(wrap64 (x3_2 + 1)), (by first | rfl | (simp; done) | (simp [*]; done) | (simp [i64_w, i32_w]; done)), H', ⟨by have := HJ1.out; have := HK2.out; omega⟩, ⟨by repeat (first | (with_reducible first | exact HB.out | apply below_alloc | apply pw_below_drewN | apply below_drew1) | exact HB.out)⟩⟩
       rw [if_pos c17] at H
       have c17b0 : decide (0 < x3_2) = true := decide_eq_true c17
       clear c17
       obtain ⟨ji18, hji18⟩ : ∃ j_ : Int, (wrap64 (x3_2 - 1)) = j_ := ⟨_, rfl⟩
       replace H : (if 0 ≤ (ji18) then (if (ji18) < (((rd_T53 l0 0).f1).length : Int) then ((spec_l19Before.f ((rd_T105 ((rd_T53 l0 0).f1) (ji18)).f0) ((rd_T105 ((rd_T53 l0 0).f1) (ji18)).f1) ((rd_T105 ((rd_T53 l0 0).f1) x3_2).f0) ((rd_T105 ((rd_T53 l0 0).f1) x3_2).f1)).bind fun t146 => (if t146 = true then (spec_l19Piece.l0 k2 (wrap64 (x3_2 + 1)) l0) else (some false))) else (none)) else (none)) = some r := by first | (rw [hji18] at H; exact H) | (simp only [hji18] at H ⊢; exact H)
       (try rw [hji18] at A13)
       (try rw [hji18] at A15)
       have hji18w : (IntKind.i64.wrap (x3_2 - 1)) = ji18 := (i64_w _).trans hji18
       by_cases c19 : 0 ≤ (ji18)
       rotate_left
       · rw [if_neg c19] at H
         exact absurd H (by simp)
       rw [if_pos c19] at H
       have c19b0 : decide (0 ≤ (ji18)) = true := decide_eq_true c19
       clear c19
       by_cases c20 : (ji18) < (((rd_T53 l0 0).f1).length : Int)
       rotate_left
       · rw [if_neg c20] at H
         exact absurd H (by simp)
       rw [if_pos c20] at H
       have c20b0 : decide ((ji18) < (((rd_T53 l0 0).f1).length : Int)) = true := decide_eq_true c20
       clear c20
       replace H := Option.bind_eq_some_iff.mp H
       obtain ⟨t146, A210, H⟩ := H
       replace H : (if t146 = true then (spec_l19Piece.l0 k2 (wrap64 (x3_2 + 1)) l0) else (some false)) = some r := H
       have A21 := mkA A210
       clear A210
       by_cases c22 : t146 = true
       rotate_left
       · replace c22 := Bool.eq_false_iff.mpr c22
         subst c22
         have H1 : (some false) = some r := by rw [if_neg (show ¬ (false = true) by decide)] at H; exact H
         clear H
         have H := H1
         clear H1
         obtain rfl := Option.some.inj H
         have p128 : 0 ≤ (0 : Int) := (by omega)
         have q128 : 0 < (l0.length : Int) := dt_
         obtain ⟨ad128, A128_1, c128_1, e128, hx128_0, hx128_1, hx128_2, hx128_3, hl128_1, hi128_1⟩ := at0_T53 HR0.out q128
         cases e128
         have qi128 : (0 < l0.length) = True := eq_true (by omega)
         replace hx128_0 := bc_ HB.out hx128_0
         replace hx128_1 := bc_ HB.out hx128_1
         replace hx128_2 := bc_ HB.out hx128_2
         replace hx128_3 := bc_ HB.out hx128_3
         have HR128_1 := mkA hi128_1
         have HC128_1 := mkA hl128_1
         clear hi128_1 hl128_1
         replace p128 := eq_true p128
         replace q128 := eq_true q128
         try go_wp2
         have n0_ := mkA (below_drew1 HB.out)
         clear HB
         have HB := n0_
         clear n0_
         have p136 : 0 ≤ (0 : Int) := (by omega)
         have q136 : 0 < (l0.length : Int) := dt_
         obtain ⟨ad136, A136_1, c136_1, e136, hx136_0, hx136_1, hx136_2, hx136_3, hl136_1, hi136_1⟩ := at0_T53 HR0.out q136
         have hw136_3 := hx136_3
         have hw136_2 := hx136_2
         have hw136_1 := hx136_1
         have hw136_0 := hx136_0
         obtain rfl : ad128 = ad136 := (by injection e136)
         have qi136 : (0 < l0.length) = True := eq_true (by omega)
         replace hx136_0 := bc_ HB.out hx136_0
         replace hx136_1 := bc_ HB.out hx136_1
         replace hx136_2 := bc_ HB.out hx136_2
         replace hx136_3 := bc_ HB.out hx136_3
         have HR136_1 := mkA hi136_1
         have HC136_1 := mkA hl136_1
         clear hi136_1 hl136_1
         replace p136 := eq_true p136
         replace q136 := eq_true q136
         have p137 : 0 ≤ (x3_2 : Int) := dt_
         have q137 : x3_2 < (((rd_T53 l0 0).f1).length : Int) := dt_
         obtain ⟨ad137, e137, hx137_0, hx137_1⟩ := at_T105 HR136_1.out x3_2 p137 q137
         have hw137_1 := hx137_1
         have hw137_0 := hx137_0
         cases e137
         replace hx137_0 := bc_ HB.out hx137_0
         replace hx137_1 := bc_ HB.out hx137_1
         replace p137 := eq_true p137
         replace q137 := eq_true q137
         have p139 : 0 ≤ (0 : Int) := (by omega)
         have q139 : 0 < (l0.length : Int) := dt_
         obtain ⟨ad139, A139_1, c139_1, e139, hx139_0, hx139_1, hx139_2, hx139_3, hl139_1, hi139_1⟩ := at0_T53 HR0.out q139
         have hw139_3 := hx139_3
         have hw139_2 := hx139_2
         have hw139_1 := hx139_1
         have hw139_0 := hx139_0
         obtain rfl : ad128 = ad139 := (by injection e139)
         have qi139 : (0 < l0.length) = True := eq_true (by omega)
         replace hx139_0 := bc_ HB.out hx139_0
         replace hx139_1 := bc_ HB.out hx139_1
         replace hx139_2 := bc_ HB.out hx139_2
         replace hx139_3 := bc_ HB.out hx139_3
         have HR139_1 := mkA hi139_1
         have HC139_1 := mkA hl139_1
         clear hi139_1 hl139_1
         replace p139 := eq_true p139
         replace q139 := eq_true q139
         have ea_ := Option.some.inj (hx136_1.symm.trans hx139_1)
         injection ea_ with ea_ en_ ec_
         subst ea_
         subst ec_
         clear en_
         have p140 : 0 ≤ (x3_2 : Int) := dt_
         have q140 : x3_2 < (((rd_T53 l0 0).f1).length : Int) := dt_
         obtain ⟨ad140, e140, hx140_0, hx140_1⟩ := at_T105 HR139_1.out x3_2 p140 q140
         have hw140_1 := hx140_1
         have hw140_0 := hx140_0
         obtain rfl : ad137 = ad140 := (by injection e140)
         replace hx140_0 := bc_ HB.out hx140_0
         replace hx140_1 := bc_ HB.out hx140_1
         replace p140 := eq_true p140
         replace q140 := eq_true q140
         have p142 : 0 ≤ (0 : Int) := (by omega)
         have q142 : 0 < (l0.length : Int) := dt_
         obtain ⟨ad142, A142_1, c142_1, e142, hx142_0, hx142_1, hx142_2, hx142_3, hl142_1, hi142_1⟩ := at0_T53 HR0.out q142
         have hw142_3 := hx142_3
         have hw142_2 := hx142_2
         have hw142_1 := hx142_1
         have hw142_0 := hx142_0
         obtain rfl : ad128 = ad142 := (by injection e142)
         have qi142 : (0 < l0.length) = True := eq_true (by omega)
         replace hx142_0 := bc_ HB.out hx142_0
         replace hx142_1 := bc_ HB.out hx142_1
         replace hx142_2 := bc_ HB.out hx142_2
         replace hx142_3 := bc_ HB.out hx142_3
         have HR142_1 := mkA hi142_1
         have HC142_1 := mkA hl142_1
         clear hi142_1 hl142_1
         replace p142 := eq_true p142
         replace q142 := eq_true q142
         have ea_ := Option.some.inj (hx136_1.symm.trans hx142_1)
         injection ea_ with ea_ en_ ec_
         subst ea_
         subst ec_
         clear en_
         have p143 : 0 ≤ ((ji18) : Int) := dt_
         have q143 : (ji18) < (((rd_T53 l0 0).f1).length : Int) := dt_
         obtain ⟨ad143, e143, hx143_0, hx143_1⟩ := at_T105 HR142_1.out (ji18) p143 q143
         have hw143_1 := hx143_1
         have hw143_0 := hx143_0
         obtain rfl : ad137 = ad143 := (by injection e143)
         replace hx143_0 := bc_ HB.out hx143_0
         replace hx143_1 := bc_ HB.out hx143_1
         replace p143 := eq_true p143
         replace q143 := eq_true q143
         have p144 : 0 ≤ (0 : Int) := (by omega)
         have q144 : 0 < (l0.length : Int) := dt_
         obtain ⟨ad144, A144_1, c144_1, e144, hx144_0, hx144_1, hx144_2, hx144_3, hl144_1, hi144_1⟩ := at0_T53 HR0.out q144
         have hw144_3 := hx144_3
         have hw144_2 := hx144_2
         have hw144_1 := hx144_1
         have hw144_0 := hx144_0
         obtain rfl : ad128 = ad144 := (by injection e144)
         have qi144 : (0 < l0.length) = True := eq_true (by omega)
         replace hx144_0 := bc_ HB.out hx144_0
         replace hx144_1 := bc_ HB.out hx144_1
         replace hx144_2 := bc_ HB.out hx144_2
         replace hx144_3 := bc_ HB.out hx144_3
         have HR144_1 := mkA hi144_1
         have HC144_1 := mkA hl144_1
         clear hi144_1 hl144_1
         replace p144 := eq_true p144
         replace q144 := eq_true q144
         have ea_ := Option.some.inj (hx136_1.symm.trans hx144_1)
         injection ea_ with ea_ en_ ec_
         subst ea_
         subst ec_
         clear en_
         have p145 : 0 ≤ (x3_2 : Int) := dt_
         have q145 : x3_2 < (((rd_T53 l0 0).f1).length : Int) := dt_
         obtain ⟨ad145, e145, hx145_0, hx145_1⟩ := at_T105 HR144_1.out x3_2 p145 q145
         have hw145_1 := hx145_1
         have hw145_0 := hx145_0
         obtain rfl : ad137 = ad145 := (by injection e145)
         replace hx145_0 := bc_ HB.out hx145_0
         replace hx145_1 := bc_ HB.out hx145_1
         replace p145 := eq_true p145
         replace q145 := eq_true q145
         refine start_ (n := 45) (S := fun w' => w'.cell? ad128 = some (.string ((rd_T53 l0 0).f0)) ∧ w'.cell? ⟨ad128.block, ad128.off + 1, none⟩ = some (.slice (some ad137) ((rd_T53 l0 0).f1).length c136_1) ∧ w'.cell? ⟨ad128.block, ad128.off + 2, none⟩ = some (.int .i64 ((rd_T53 l0 0).f2)) ∧ w'.cell? ⟨ad128.block, ad128.off + 3, none⟩ = some (.bool ((rd_T53 l0 0).f3)) ∧ w'.cell? (ad137.add ((x3_2).toNat * 2)) = some (.int .i64 ((rd_T105 ((rd_T53 l0 0).f1) x3_2).f0)) ∧ w'.cell? ⟨(ad137.add ((x3_2).toNat * 2)).block, (ad137.add ((x3_2).toNat * 2)).off + 1, none⟩ = some (.int .i64 ((rd_T105 ((rd_T53 l0 0).f1) x3_2).f1)) ∧ w'.cell? ad128 = some (.string ((rd_T53 l0 0).f0)) ∧ w'.cell? ⟨ad128.block, ad128.off + 1, none⟩ = some (.slice (some ad137) ((rd_T53 l0 0).f1).length c136_1) ∧ w'.cell? ⟨ad128.block, ad128.off + 2, none⟩ = some (.int .i64 ((rd_T53 l0 0).f2)) ∧ w'.cell? ⟨ad128.block, ad128.off + 3, none⟩ = some (.bool ((rd_T53 l0 0).f3)) ∧ w'.cell? (ad137.add ((x3_2).toNat * 2)) = some (.int .i64 ((rd_T105 ((rd_T53 l0 0).f1) x3_2).f0)) ∧ w'.cell? ⟨(ad137.add ((x3_2).toNat * 2)).block, (ad137.add ((x3_2).toNat * 2)).off + 1, none⟩ = some (.int .i64 ((rd_T105 ((rd_T53 l0 0).f1) x3_2).f1)) ∧ w'.cell? ad128 = some (.string ((rd_T53 l0 0).f0)) ∧ w'.cell? ⟨ad128.block, ad128.off + 1, none⟩ = some (.slice (some ad137) ((rd_T53 l0 0).f1).length c136_1) ∧ w'.cell? ⟨ad128.block, ad128.off + 2, none⟩ = some (.int .i64 ((rd_T53 l0 0).f2)) ∧ w'.cell? ⟨ad128.block, ad128.off + 3, none⟩ = some (.bool ((rd_T53 l0 0).f3)) ∧ w'.cell? (ad137.add (((ji18)).toNat * 2)) = some (.int .i64 ((rd_T105 ((rd_T53 l0 0).f1) (ji18)).f0)) ∧ w'.cell? ⟨(ad137.add (((ji18)).toNat * 2)).block, (ad137.add (((ji18)).toNat * 2)).off + 1, none⟩ = some (.int .i64 ((rd_T105 ((rd_T53 l0 0).f1) (ji18)).f1)) ∧ w'.cell? ad128 = some (.string ((rd_T53 l0 0).f0)) ∧ w'.cell? ⟨ad128.block, ad128.off + 1, none⟩ = some (.slice (some ad137) ((rd_T53 l0 0).f1).length c136_1) ∧ w'.cell? ⟨ad128.block, ad128.off + 2, none⟩ = some (.int .i64 ((rd_T53 l0 0).f2)) ∧ w'.cell? ⟨ad128.block, ad128.off + 3, none⟩ = some (.bool ((rd_T53 l0 0).f3)) ∧ w'.cell? (ad137.add ((x3_2).toNat * 2)) = some (.int .i64 ((rd_T105 ((rd_T53 l0 0).f1) x3_2).f0)) ∧ w'.cell? ⟨(ad137.add ((x3_2).toNat * 2)).block, (ad137.add ((x3_2).toNat * 2)).off + 1, none⟩ = some (.int .i64 ((rd_T105 ((rd_T53 l0 0).f1) x3_2).f1))) (ds := []) spec_l19Piece.d0 (by kernel_rfl) rfl rfl ⟨(bc_ HB.out hw136_0 :), (bc_ HB.out hw136_1 :), (bc_ HB.out hw136_2 :), (bc_ HB.out hw136_3 :), (bc_ HB.out hw137_0 :), (bc_ HB.out hw137_1 :), (bc_ HB.out hw139_0 :), (bc_ HB.out hw139_1 :), (bc_ HB.out hw139_2 :), (bc_ HB.out hw139_3 :), (bc_ HB.out hw140_0 :), (bc_ HB.out hw140_1 :), (bc_ HB.out hw142_0 :), (bc_ HB.out hw142_1 :), (bc_ HB.out hw142_2 :), (bc_ HB.out hw142_3 :), (bc_ HB.out hw143_0 :), (bc_ HB.out hw143_1 :), (bc_ HB.out hw144_0 :), (bc_ HB.out hw144_1 :), (bc_ HB.out hw144_2 :), (bc_ HB.out hw144_3 :), (bc_ HB.out hw145_0 :), (bc_ HB.out hw145_1 :)⟩ (fun hHeld => ?_); refine with_tabW spec_l19Piece.tab6 spec_l19Piece.bits6 (fun HT_ HW_ => ?_)
         generalize wr.drew = w25 at HB HR136_1 HR139_1 HR142_1 HR144_1 hx136_0 hx136_1 hx136_2 hx136_3 hx137_0 hx137_1 hx139_0 hx139_1 hx139_2 hx139_3 hx140_0 hx140_1 hx142_0 hx142_1 hx142_2 hx142_3 hx143_0 hx143_1 hx144_0 hx144_1 hx144_2 hx144_3 hx145_0 hx145_1 hHeld ⊢
         refine p1_ HT_.out 0 45 spec_l19Piece.d1 ?_
         refine p1_ HT_.out 1 46 spec_l19Piece.d2 ?_
         refine p1_ HT_.out 2 47 spec_l19Piece.d3 ?_
         refine p1_ HT_.out 4 49 spec_l19Piece.d4 ?_
         refine take_ (i := 3) (N := some 48) (v := ?_) (a' := ?_) spec_l19Piece.d5 rfl rfl (take_ofW HT_.out HW_.out (by kernel_rfl)) (fun _ _ _ h => h) (Or.inl ⟨by rfl, ?_⟩) hHeld ?_ ?_
         rotate_left
         · rintro w' ⟨s0, s1, s2, s3, s4, s5, s6, s7, s8, s9, s10, s11, s12, s13, s14, s15, s16, s17, s18, s19, s20, s21, s22, s23⟩
           go_simp
           with_reducible rfl
         rotate_left
         · simp only [Act.put, sA, sB, sC, i64_w, i32_w]
           rfl
         refine p1_ HT_.out 5 50 spec_l19Piece.d6 ?_
         refine p1_ HT_.out 6 51 spec_l19Piece.d7 ?_
         refine take_ (i := 7) (N := some 52) (v := ?_) (a' := ?_) spec_l19Piece.d8 rfl rfl (take_ofW HT_.out HW_.out (by kernel_rfl)) (fun _ _ _ h => h) (Or.inl ⟨by rfl, ?_⟩) hHeld ?_ ?_
         rotate_left
         · rintro w' ⟨s0, s1, s2, s3, s4, s5, s6, s7, s8, s9, s10, s11, s12, s13, s14, s15, s16, s17, s18, s19, s20, s21, s22, s23⟩
           go_simp
           with_reducible rfl
         rotate_left
         · simp only [Act.put, sA, sB, sC, i64_w, i32_w]
           rfl
         refine one_ (i := 8) (N := some 53) spec_l19Piece.d9 rfl rfl (one_of HT_.out (by kernel_rfl)) (by decide) (fun K hK => ?_)
         refine goes_ Try.func60 (by kernel_rfl) rfl #[.int .i64 ((rd_T105 ((rd_T53 l0 0).f1) x3_2).f0), .int .i64 0, .int .i64 5] (by rfl) rfl rfl (by (try simp only [List.map_toArray, List.map_cons, List.map_nil]); first | done | rfl | (simp only [List.length_drop, List.length_take]; rfl)) ?_
         with_reducible refine (spec_l00In.calls ((rd_T105 ((rd_T53 l0 0).f1) x3_2).f0) 0 5 true _ A13.out).mono ?_
         rintro e w' ⟨rfl, ⟨nd, rfl⟩⟩
         refine ⟨_, rfl, ?_⟩
         refine hK.out _ _ ⟨(bc_ HB.out hw136_0 :), (bc_ HB.out hw136_1 :), (bc_ HB.out hw136_2 :), (bc_ HB.out hw136_3 :), (bc_ HB.out hw137_0 :), (bc_ HB.out hw137_1 :), (bc_ HB.out hw139_0 :), (bc_ HB.out hw139_1 :), (bc_ HB.out hw139_2 :), (bc_ HB.out hw139_3 :), (bc_ HB.out hw140_0 :), (bc_ HB.out hw140_1 :), (bc_ HB.out hw142_0 :), (bc_ HB.out hw142_1 :), (bc_ HB.out hw142_2 :), (bc_ HB.out hw142_3 :), (bc_ HB.out hw143_0 :), (bc_ HB.out hw143_1 :), (bc_ HB.out hw144_0 :), (bc_ HB.out hw144_1 :), (bc_ HB.out hw144_2 :), (bc_ HB.out hw144_3 :), (bc_ HB.out hw145_0 :), (bc_ HB.out hw145_1 :)⟩ (fun hHeld => ?_)
         clear hK K
         refine norm_ (a' := ?_) ?_ ?_
         rotate_left
         · show Act.put _ (some 53) _ = _
           simp only [Act.put, sA, sB, sC, i64_w, i32_w]
           rfl
         refine p1_ HT_.out 9 54 spec_l19Piece.d10 ?_
         refine p1_ HT_.out 10 55 spec_l19Piece.d11 ?_
         refine p1_ HT_.out 11 56 spec_l19Piece.d12 ?_
         refine p1_ HT_.out 12 57 spec_l19Piece.d13 ?_
         refine p1_ HT_.out 13 58 spec_l19Piece.d14 ?_
         refine p1_ HT_.out 15 60 spec_l19Piece.d15 ?_
         refine take_ (i := 14) (N := some 59) (v := ?_) (a' := ?_) spec_l19Piece.d16 rfl rfl (take_ofW HT_.out HW_.out (by kernel_rfl)) (fun _ _ _ h => h) (Or.inl ⟨by rfl, ?_⟩) hHeld ?_ ?_
         rotate_left
         · rintro w' ⟨s0, s1, s2, s3, s4, s5, s6, s7, s8, s9, s10, s11, s12, s13, s14, s15, s16, s17, s18, s19, s20, s21, s22, s23⟩
           go_simp
           with_reducible rfl
         rotate_left
         · simp only [Act.put, sA, sB, sC, i64_w, i32_w]
           rfl
         refine p1_ HT_.out 16 61 spec_l19Piece.d17 ?_
         refine p1_ HT_.out 17 62 spec_l19Piece.d18 ?_
         refine take_ (i := 18) (N := some 63) (v := ?_) (a' := ?_) spec_l19Piece.d19 rfl rfl (take_ofW HT_.out HW_.out (by kernel_rfl)) (fun _ _ _ h => h) (Or.inl ⟨by rfl, ?_⟩) hHeld ?_ ?_
         rotate_left
         · rintro w' ⟨s0, s1, s2, s3, s4, s5, s6, s7, s8, s9, s10, s11, s12, s13, s14, s15, s16, s17, s18, s19, s20, s21, s22, s23⟩
           go_simp
           with_reducible rfl
         rotate_left
         · simp only [Act.put, sA, sB, sC, i64_w, i32_w]
           rfl
         refine one_ (i := 19) (N := some 64) spec_l19Piece.d20 rfl rfl (one_of HT_.out (by kernel_rfl)) (by decide) (fun K hK => ?_)
         refine goes_ Try.func60 (by kernel_rfl) rfl #[.int .i64 ((rd_T105 ((rd_T53 l0 0).f1) x3_2).f1), .int .i64 0, .int .i64 5] (by rfl) rfl rfl (by (try simp only [List.map_toArray, List.map_cons, List.map_nil]); first | done | rfl | (simp only [List.length_drop, List.length_take]; rfl)) ?_
         with_reducible refine (spec_l00In.calls ((rd_T105 ((rd_T53 l0 0).f1) x3_2).f1) 0 5 true _ A15.out).mono ?_
         rintro e w' ⟨rfl, ⟨nd, rfl⟩⟩
         refine ⟨_, rfl, ?_⟩
         refine hK.out _ _ ⟨(bc_ HB.out hw136_0 :), (bc_ HB.out hw136_1 :), (bc_ HB.out hw136_2 :), (bc_ HB.out hw136_3 :), (bc_ HB.out hw137_0 :), (bc_ HB.out hw137_1 :), (bc_ HB.out hw139_0 :), (bc_ HB.out hw139_1 :), (bc_ HB.out hw139_2 :), (bc_ HB.out hw139_3 :), (bc_ HB.out hw140_0 :), (bc_ HB.out hw140_1 :), (bc_ HB.out hw142_0 :), (bc_ HB.out hw142_1 :), (bc_ HB.out hw142_2 :), (bc_ HB.out hw142_3 :), (bc_ HB.out hw143_0 :), (bc_ HB.out hw143_1 :), (bc_ HB.out hw144_0 :), (bc_ HB.out hw144_1 :), (bc_ HB.out hw144_2 :), (bc_ HB.out hw144_3 :), (bc_ HB.out hw145_0 :), (bc_ HB.out hw145_1 :)⟩ (fun hHeld => ?_)
         clear hK K
         refine norm_ (a' := ?_) ?_ ?_
         rotate_left
         · show Act.put _ (some 64) _ = _
           simp only [Act.put, sA, sB, sC, i64_w, i32_w]
           rfl
         refine p1_ HT_.out 20 65 spec_l19Piece.d21 ?_
         refine p1_ HT_.out 21 66 spec_l19Piece.d22 ?_
         refine p1_ HT_.out 22 67 spec_l19Piece.d23 ?_
         refine p1_ HT_.out 23 68 spec_l19Piece.d24 ?_
         refine p1_ HT_.out 24 69 spec_l19Piece.d25 ?_
         refine p1_ HT_.out 25 70 spec_l19Piece.d26 ?_
         refine p1_ HT_.out 26 71 spec_l19Piece.d27 ?_
         refine p1_ HT_.out 27 72 spec_l19Piece.d28 ?_
         refine p1_ HT_.out 28 73 spec_l19Piece.d29 ?_
         refine p1_ HT_.out 30 75 spec_l19Piece.d30 ?_
         refine p1_ HT_.out 31 76 spec_l19Piece.d31 ?_
         refine p1_ HT_.out 34 79 spec_l19Piece.d32 ?_
         refine p1_ HT_.out 35 80 spec_l19Piece.d33 ?_
         refine p1_ HT_.out 36 81 spec_l19Piece.d34 ?_
         refine p1_ HT_.out 38 83 spec_l19Piece.d35 ?_
         refine take_ (i := 29) (N := some 74) (v := ?_) (a' := ?_) spec_l19Piece.d36 rfl rfl (take_ofW HT_.out HW_.out (by kernel_rfl)) (fun _ _ _ h => h) (Or.inl ⟨by rfl, ?_⟩) hHeld ?_ ?_
         rotate_left
         · rintro w' ⟨s0, s1, s2, s3, s4, s5, s6, s7, s8, s9, s10, s11, s12, s13, s14, s15, s16, s17, s18, s19, s20, s21, s22, s23⟩
           go_simp
           with_reducible rfl
         rotate_left
         · simp only [Act.put, sA, sB, sC, i64_w, i32_w]
           rfl
         refine p1_ HT_.out 32 77 spec_l19Piece.d37 ?_
         refine take_ (i := 33) (N := some 78) (v := ?_) (a' := ?_) spec_l19Piece.d38 rfl rfl (take_ofW HT_.out HW_.out (by kernel_rfl)) (fun _ _ _ h => h) (Or.inl ⟨by rfl, ?_⟩) hHeld ?_ ?_
         rotate_left
         · rintro w' ⟨s0, s1, s2, s3, s4, s5, s6, s7, s8, s9, s10, s11, s12, s13, s14, s15, s16, s17, s18, s19, s20, s21, s22, s23⟩
           go_simp
           with_reducible rfl
         rotate_left
         · simp only [Act.put, sA, sB, sC, i64_w, i32_w]
           rfl
         refine take_ (i := 37) (N := some 82) (v := ?_) (a' := ?_) spec_l19Piece.d39 rfl rfl (take_ofW HT_.out HW_.out (by kernel_rfl)) (fun _ _ _ h => h) (Or.inl ⟨by rfl, ?_⟩) hHeld ?_ ?_
         rotate_left
         · rintro w' ⟨s0, s1, s2, s3, s4, s5, s6, s7, s8, s9, s10, s11, s12, s13, s14, s15, s16, s17, s18, s19, s20, s21, s22, s23⟩
           go_simp
           with_reducible rfl
         rotate_left
         · simp only [Act.put, sA, sB, sC, i64_w, i32_w]
           rfl
         refine p1_ HT_.out 39 84 spec_l19Piece.d40 ?_
         refine take_ (i := 40) (N := some 85) (v := ?_) (a' := ?_) spec_l19Piece.d41 rfl rfl (take_ofW HT_.out HW_.out (by kernel_rfl)) (fun _ _ _ h => h) (Or.inl ⟨by rfl, ?_⟩) hHeld ?_ ?_
         rotate_left
         · rintro w' ⟨s0, s1, s2, s3, s4, s5, s6, s7, s8, s9, s10, s11, s12, s13, s14, s15, s16, s17, s18, s19, s20, s21, s22, s23⟩
           go_simp
           with_reducible rfl
         rotate_left
         · simp only [Act.put, sA, sB, sC, i64_w, i32_w]
           rfl
         refine one_ (i := 41) (N := some 86) spec_l19Piece.d42 rfl rfl (one_of HT_.out (by kernel_rfl)) (by decide) (fun K hK => ?_)
         refine goes_ Try.func92 (by kernel_rfl) rfl #[.agg #[.int .i64 ((rd_T105 ((rd_T53 l0 0).f1) (ji18)).f0), .int .i64 ((rd_T105 ((rd_T53 l0 0).f1) (ji18)).f1)], .agg #[.int .i64 ((rd_T105 ((rd_T53 l0 0).f1) x3_2).f0), .int .i64 ((rd_T105 ((rd_T53 l0 0).f1) x3_2).f1)]] (by rfl) rfl rfl (by (try simp only [List.map_toArray, List.map_cons, List.map_nil]); first | done | (simp only [hji18]; rfl) | rfl | (simp only [List.length_drop, List.length_take]; rfl)) ?_
         with_reducible refine (spec_l19Before.calls ((rd_T105 ((rd_T53 l0 0).f1) (ji18)).f0) ((rd_T105 ((rd_T53 l0 0).f1) (ji18)).f1) ((rd_T105 ((rd_T53 l0 0).f1) x3_2).f0) ((rd_T105 ((rd_T53 l0 0).f1) x3_2).f1) false _ A21.out).mono ?_
         rintro e w26 ⟨rfl, hb⟩
         refine ⟨_, rfl, ?_⟩
         have n0_ := mkA (below_step (bs0_ HB.out) hb)
         clear HB
         have HB := n0_
         clear n0_
         (try clear hb)
         (try clear hb2)
         (try clear hk)
         (try clear hi)
         refine hK.out _ _ ⟨(bc_ HB.out hw136_0 :), (bc_ HB.out hw136_1 :), (bc_ HB.out hw136_2 :), (bc_ HB.out hw136_3 :), (bc_ HB.out hw137_0 :), (bc_ HB.out hw137_1 :), (bc_ HB.out hw139_0 :), (bc_ HB.out hw139_1 :), (bc_ HB.out hw139_2 :), (bc_ HB.out hw139_3 :), (bc_ HB.out hw140_0 :), (bc_ HB.out hw140_1 :), (bc_ HB.out hw142_0 :), (bc_ HB.out hw142_1 :), (bc_ HB.out hw142_2 :), (bc_ HB.out hw142_3 :), (bc_ HB.out hw143_0 :), (bc_ HB.out hw143_1 :), (bc_ HB.out hw144_0 :), (bc_ HB.out hw144_1 :), (bc_ HB.out hw144_2 :), (bc_ HB.out hw144_3 :), (bc_ HB.out hw145_0 :), (bc_ HB.out hw145_1 :)⟩ (fun hHeld => ?_)
         clear hK K
         refine norm_ (a' := ?_) ?_ ?_
         rotate_left
         · show Act.put _ (some 86) _ = _
           simp only [Act.put, sA, sB, sC, i64_w, i32_w]
           rfl
         refine p1_ HT_.out 42 87 spec_l19Piece.d43 ?_
         refine p1_ HT_.out 43 88 spec_l19Piece.d44 ?_
         refine p1_ HT_.out 44 89 spec_l19Piece.d45 ?_
         refine done_ (done_of HT_.out (by kernel_rfl)) ?_
         try go_wp2
         go_ret
         exact ⟨by first | rfl | (simp [errW_none, errW_some] <;> rfl) | (simp only [← hji18]; first | rfl | (simp [errW_none, errW_some] <;> rfl)) | (simp [*, errW_none, errW_some] <;> rfl), by repeat (first | (with_reducible first | exact HB.out | apply below_alloc | apply pw_below_drewN | apply below_drew1) | exact HB.out)⟩
       subst c22
       have H1 : (spec_l19Piece.l0 k2 (wrap64 (x3_2 + 1)) l0) = some r := by rw [if_pos rfl] at H; exact H
       clear H
       have H := H1
       clear H1
       have H' := mkA H
       clear H
       have p128 : 0 ≤ (0 : Int) := (by omega)
       have q128 : 0 < (l0.length : Int) := dt_
       obtain ⟨ad128, A128_1, c128_1, e128, hx128_0, hx128_1, hx128_2, hx128_3, hl128_1, hi128_1⟩ := at0_T53 HR0.out q128
       cases e128
       have qi128 : (0 < l0.length) = True := eq_true (by omega)
       replace hx128_0 := bc_ HB.out hx128_0
       replace hx128_1 := bc_ HB.out hx128_1
       replace hx128_2 := bc_ HB.out hx128_2
       replace hx128_3 := bc_ HB.out hx128_3
       have HR128_1 := mkA hi128_1
       have HC128_1 := mkA hl128_1
       clear hi128_1 hl128_1
       replace p128 := eq_true p128
       replace q128 := eq_true q128
       try go_wp2
       have n0_ := mkA (below_drew1 HB.out)
       clear HB
       have HB := n0_
       clear n0_
       have p136 : 0 ≤ (0 : Int) := (by omega)
       have q136 : 0 < (l0.length : Int) := dt_
       obtain ⟨ad136, A136_1, c136_1, e136, hx136_0, hx136_1, hx136_2, hx136_3, hl136_1, hi136_1⟩ := at0_T53 HR0.out q136
       have hw136_3 := hx136_3
       have hw136_2 := hx136_2
       have hw136_1 := hx136_1
       have hw136_0 := hx136_0
       obtain rfl : ad128 = ad136 := (by injection e136)
       have qi136 : (0 < l0.length) = True := eq_true (by omega)
       replace hx136_0 := bc_ HB.out hx136_0
       replace hx136_1 := bc_ HB.out hx136_1
       replace hx136_2 := bc_ HB.out hx136_2
       replace hx136_3 := bc_ HB.out hx136_3
       have HR136_1 := mkA hi136_1
       have HC136_1 := mkA hl136_1
       clear hi136_1 hl136_1
       replace p136 := eq_true p136
       replace q136 := eq_true q136
       have p137 : 0 ≤ (x3_2 : Int) := dt_
       have q137 : x3_2 < (((rd_T53 l0 0).f1).length : Int) := dt_
       obtain ⟨ad137, e137, hx137_0, hx137_1⟩ := at_T105 HR136_1.out x3_2 p137 q137
       have hw137_1 := hx137_1
       have hw137_0 := hx137_0
       cases e137
       replace hx137_0 := bc_ HB.out hx137_0
       replace hx137_1 := bc_ HB.out hx137_1
       replace p137 := eq_true p137
       replace q137 := eq_true q137
       have p139 : 0 ≤ (0 : Int) := (by omega)
       have q139 : 0 < (l0.length : Int) := dt_
       obtain ⟨ad139, A139_1, c139_1, e139, hx139_0, hx139_1, hx139_2, hx139_3, hl139_1, hi139_1⟩ := at0_T53 HR0.out q139
       have hw139_3 := hx139_3
       have hw139_2 := hx139_2
       have hw139_1 := hx139_1
       have hw139_0 := hx139_0
       obtain rfl : ad128 = ad139 := (by injection e139)
       have qi139 : (0 < l0.length) = True := eq_true (by omega)
       replace hx139_0 := bc_ HB.out hx139_0
       replace hx139_1 := bc_ HB.out hx139_1
       replace hx139_2 := bc_ HB.out hx139_2
       replace hx139_3 := bc_ HB.out hx139_3
       have HR139_1 := mkA hi139_1
       have HC139_1 := mkA hl139_1
       clear hi139_1 hl139_1
       replace p139 := eq_true p139
       replace q139 := eq_true q139
       have ea_ := Option.some.inj (hx136_1.symm.trans hx139_1)
       injection ea_ with ea_ en_ ec_
       subst ea_
       subst ec_
       clear en_
       have p140 : 0 ≤ (x3_2 : Int) := dt_
       have q140 : x3_2 < (((rd_T53 l0 0).f1).length : Int) := dt_
       obtain ⟨ad140, e140, hx140_0, hx140_1⟩ := at_T105 HR139_1.out x3_2 p140 q140
       have hw140_1 := hx140_1
       have hw140_0 := hx140_0
       obtain rfl : ad137 = ad140 := (by injection e140)
       replace hx140_0 := bc_ HB.out hx140_0
       replace hx140_1 := bc_ HB.out hx140_1
       replace p140 := eq_true p140
       replace q140 := eq_true q140
       have p142 : 0 ≤ (0 : Int) := (by omega)
       have q142 : 0 < (l0.length : Int) := dt_
       obtain ⟨ad142, A142_1, c142_1, e142, hx142_0, hx142_1, hx142_2, hx142_3, hl142_1, hi142_1⟩ := at0_T53 HR0.out q142
       have hw142_3 := hx142_3
       have hw142_2 := hx142_2
       have hw142_1 := hx142_1
       have hw142_0 := hx142_0
       obtain rfl : ad128 = ad142 := (by injection e142)
       have qi142 : (0 < l0.length) = True := eq_true (by omega)
       replace hx142_0 := bc_ HB.out hx142_0
       replace hx142_1 := bc_ HB.out hx142_1
       replace hx142_2 := bc_ HB.out hx142_2
       replace hx142_3 := bc_ HB.out hx142_3
       have HR142_1 := mkA hi142_1
       have HC142_1 := mkA hl142_1
       clear hi142_1 hl142_1
       replace p142 := eq_true p142
       replace q142 := eq_true q142
       have ea_ := Option.some.inj (hx136_1.symm.trans hx142_1)
       injection ea_ with ea_ en_ ec_
       subst ea_
       subst ec_
       clear en_
       have p143 : 0 ≤ ((ji18) : Int) := dt_
       have q143 : (ji18) < (((rd_T53 l0 0).f1).length : Int) := dt_
       obtain ⟨ad143, e143, hx143_0, hx143_1⟩ := at_T105 HR142_1.out (ji18) p143 q143
       have hw143_1 := hx143_1
       have hw143_0 := hx143_0
       obtain rfl : ad137 = ad143 := (by injection e143)
       replace hx143_0 := bc_ HB.out hx143_0
       replace hx143_1 := bc_ HB.out hx143_1
       replace p143 := eq_true p143
       replace q143 := eq_true q143
       have p144 : 0 ≤ (0 : Int) := (by omega)
       have q144 : 0 < (l0.length : Int) := dt_
       obtain ⟨ad144, A144_1, c144_1, e144, hx144_0, hx144_1, hx144_2, hx144_3, hl144_1, hi144_1⟩ := at0_T53 HR0.out q144
       have hw144_3 := hx144_3
       have hw144_2 := hx144_2
       have hw144_1 := hx144_1
       have hw144_0 := hx144_0
       obtain rfl : ad128 = ad144 := (by injection e144)
       have qi144 : (0 < l0.length) = True := eq_true (by omega)
       replace hx144_0 := bc_ HB.out hx144_0
       replace hx144_1 := bc_ HB.out hx144_1
       replace hx144_2 := bc_ HB.out hx144_2
       replace hx144_3 := bc_ HB.out hx144_3
       have HR144_1 := mkA hi144_1
       have HC144_1 := mkA hl144_1
       clear hi144_1 hl144_1
       replace p144 := eq_true p144
       replace q144 := eq_true q144
       have ea_ := Option.some.inj (hx136_1.symm.trans hx144_1)
       injection ea_ with ea_ en_ ec_
       subst ea_
       subst ec_
       clear en_
       have p145 : 0 ≤ (x3_2 : Int) := dt_
       have q145 : x3_2 < (((rd_T53 l0 0).f1).length : Int) := dt_
       obtain ⟨ad145, e145, hx145_0, hx145_1⟩ := at_T105 HR144_1.out x3_2 p145 q145
       have hw145_1 := hx145_1
       have hw145_0 := hx145_0
       obtain rfl : ad137 = ad145 := (by injection e145)
       replace hx145_0 := bc_ HB.out hx145_0
       replace hx145_1 := bc_ HB.out hx145_1
       replace p145 := eq_true p145
       replace q145 := eq_true q145
       refine start_ (n := 45) (S := fun w' => w'.cell? ad128 = some (.string ((rd_T53 l0 0).f0)) ∧ w'.cell? ⟨ad128.block, ad128.off + 1, none⟩ = some (.slice (some ad137) ((rd_T53 l0 0).f1).length c136_1) ∧ w'.cell? ⟨ad128.block, ad128.off + 2, none⟩ = some (.int .i64 ((rd_T53 l0 0).f2)) ∧ w'.cell? ⟨ad128.block, ad128.off + 3, none⟩ = some (.bool ((rd_T53 l0 0).f3)) ∧ w'.cell? (ad137.add ((x3_2).toNat * 2)) = some (.int .i64 ((rd_T105 ((rd_T53 l0 0).f1) x3_2).f0)) ∧ w'.cell? ⟨(ad137.add ((x3_2).toNat * 2)).block, (ad137.add ((x3_2).toNat * 2)).off + 1, none⟩ = some (.int .i64 ((rd_T105 ((rd_T53 l0 0).f1) x3_2).f1)) ∧ w'.cell? ad128 = some (.string ((rd_T53 l0 0).f0)) ∧ w'.cell? ⟨ad128.block, ad128.off + 1, none⟩ = some (.slice (some ad137) ((rd_T53 l0 0).f1).length c136_1) ∧ w'.cell? ⟨ad128.block, ad128.off + 2, none⟩ = some (.int .i64 ((rd_T53 l0 0).f2)) ∧ w'.cell? ⟨ad128.block, ad128.off + 3, none⟩ = some (.bool ((rd_T53 l0 0).f3)) ∧ w'.cell? (ad137.add ((x3_2).toNat * 2)) = some (.int .i64 ((rd_T105 ((rd_T53 l0 0).f1) x3_2).f0)) ∧ w'.cell? ⟨(ad137.add ((x3_2).toNat * 2)).block, (ad137.add ((x3_2).toNat * 2)).off + 1, none⟩ = some (.int .i64 ((rd_T105 ((rd_T53 l0 0).f1) x3_2).f1)) ∧ w'.cell? ad128 = some (.string ((rd_T53 l0 0).f0)) ∧ w'.cell? ⟨ad128.block, ad128.off + 1, none⟩ = some (.slice (some ad137) ((rd_T53 l0 0).f1).length c136_1) ∧ w'.cell? ⟨ad128.block, ad128.off + 2, none⟩ = some (.int .i64 ((rd_T53 l0 0).f2)) ∧ w'.cell? ⟨ad128.block, ad128.off + 3, none⟩ = some (.bool ((rd_T53 l0 0).f3)) ∧ w'.cell? (ad137.add (((ji18)).toNat * 2)) = some (.int .i64 ((rd_T105 ((rd_T53 l0 0).f1) (ji18)).f0)) ∧ w'.cell? ⟨(ad137.add (((ji18)).toNat * 2)).block, (ad137.add (((ji18)).toNat * 2)).off + 1, none⟩ = some (.int .i64 ((rd_T105 ((rd_T53 l0 0).f1) (ji18)).f1)) ∧ w'.cell? ad128 = some (.string ((rd_T53 l0 0).f0)) ∧ w'.cell? ⟨ad128.block, ad128.off + 1, none⟩ = some (.slice (some ad137) ((rd_T53 l0 0).f1).length c136_1) ∧ w'.cell? ⟨ad128.block, ad128.off + 2, none⟩ = some (.int .i64 ((rd_T53 l0 0).f2)) ∧ w'.cell? ⟨ad128.block, ad128.off + 3, none⟩ = some (.bool ((rd_T53 l0 0).f3)) ∧ w'.cell? (ad137.add ((x3_2).toNat * 2)) = some (.int .i64 ((rd_T105 ((rd_T53 l0 0).f1) x3_2).f0)) ∧ w'.cell? ⟨(ad137.add ((x3_2).toNat * 2)).block, (ad137.add ((x3_2).toNat * 2)).off + 1, none⟩ = some (.int .i64 ((rd_T105 ((rd_T53 l0 0).f1) x3_2).f1))) (ds := []) spec_l19Piece.d0 (by kernel_rfl) rfl rfl ⟨(bc_ HB.out hw136_0 :), (bc_ HB.out hw136_1 :), (bc_ HB.out hw136_2 :), (bc_ HB.out hw136_3 :), (bc_ HB.out hw137_0 :), (bc_ HB.out hw137_1 :), (bc_ HB.out hw139_0 :), (bc_ HB.out hw139_1 :), (bc_ HB.out hw139_2 :), (bc_ HB.out hw139_3 :), (bc_ HB.out hw140_0 :), (bc_ HB.out hw140_1 :), (bc_ HB.out hw142_0 :), (bc_ HB.out hw142_1 :), (bc_ HB.out hw142_2 :), (bc_ HB.out hw142_3 :), (bc_ HB.out hw143_0 :), (bc_ HB.out hw143_1 :), (bc_ HB.out hw144_0 :), (bc_ HB.out hw144_1 :), (bc_ HB.out hw144_2 :), (bc_ HB.out hw144_3 :), (bc_ HB.out hw145_0 :), (bc_ HB.out hw145_1 :)⟩ (fun hHeld => ?_); refine with_tabW spec_l19Piece.tab6 spec_l19Piece.bits6 (fun HT_ HW_ => ?_)
       generalize wr.drew = w23 at HB HR136_1 HR139_1 HR142_1 HR144_1 hx136_0 hx136_1 hx136_2 hx136_3 hx137_0 hx137_1 hx139_0 hx139_1 hx139_2 hx139_3 hx140_0 hx140_1 hx142_0 hx142_1 hx142_2 hx142_3 hx143_0 hx143_1 hx144_0 hx144_1 hx144_2 hx144_3 hx145_0 hx145_1 hHeld ⊢
       refine p1_ HT_.out 0 45 spec_l19Piece.d1 ?_
       refine p1_ HT_.out 1 46 spec_l19Piece.d2 ?_
       refine p1_ HT_.out 2 47 spec_l19Piece.d3 ?_
       refine p1_ HT_.out 4 49 spec_l19Piece.d4 ?_
       refine take_ (i := 3) (N := some 48) (v := ?_) (a' := ?_) spec_l19Piece.d5 rfl rfl (take_ofW HT_.out HW_.out (by kernel_rfl)) (fun _ _ _ h => h) (Or.inl ⟨by rfl, ?_⟩) hHeld ?_ ?_
       rotate_left
       · rintro w' ⟨s0, s1, s2, s3, s4, s5, s6, s7, s8, s9, s10, s11, s12, s13, s14, s15, s16, s17, s18, s19, s20, s21, s22, s23⟩
         go_simp
         with_reducible rfl
       rotate_left
       · simp only [Act.put, sA, sB, sC, i64_w, i32_w]
         rfl
       refine p1_ HT_.out 5 50 spec_l19Piece.d6 ?_
       refine p1_ HT_.out 6 51 spec_l19Piece.d7 ?_
       refine take_ (i := 7) (N := some 52) (v := ?_) (a' := ?_) spec_l19Piece.d8 rfl rfl (take_ofW HT_.out HW_.out (by kernel_rfl)) (fun _ _ _ h => h) (Or.inl ⟨by rfl, ?_⟩) hHeld ?_ ?_
       rotate_left
       · rintro w' ⟨s0, s1, s2, s3, s4, s5, s6, s7, s8, s9, s10, s11, s12, s13, s14, s15, s16, s17, s18, s19, s20, s21, s22, s23⟩
         go_simp
         with_reducible rfl
       rotate_left
       · simp only [Act.put, sA, sB, sC, i64_w, i32_w]
         rfl
       refine one_ (i := 8) (N := some 53) spec_l19Piece.d9 rfl rfl (one_of HT_.out (by kernel_rfl)) (by decide) (fun K hK => ?_)
       refine goes_ Try.func60 (by kernel_rfl) rfl #[.int .i64 ((rd_T105 ((rd_T53 l0 0).f1) x3_2).f0), .int .i64 0, .int .i64 5] (by rfl) rfl rfl (by (try simp only [List.map_toArray, List.map_cons, List.map_nil]); first | done | rfl | (simp only [List.length_drop, List.length_take]; rfl)) ?_
       with_reducible refine (spec_l00In.calls ((rd_T105 ((rd_T53 l0 0).f1) x3_2).f0) 0 5 true _ A13.out).mono ?_
       rintro e w' ⟨rfl, ⟨nd, rfl⟩⟩
       refine ⟨_, rfl, ?_⟩
       refine hK.out _ _ ⟨(bc_ HB.out hw136_0 :), (bc_ HB.out hw136_1 :), (bc_ HB.out hw136_2 :), (bc_ HB.out hw136_3 :), (bc_ HB.out hw137_0 :), (bc_ HB.out hw137_1 :), (bc_ HB.out hw139_0 :), (bc_ HB.out hw139_1 :), (bc_ HB.out hw139_2 :), (bc_ HB.out hw139_3 :), (bc_ HB.out hw140_0 :), (bc_ HB.out hw140_1 :), (bc_ HB.out hw142_0 :), (bc_ HB.out hw142_1 :), (bc_ HB.out hw142_2 :), (bc_ HB.out hw142_3 :), (bc_ HB.out hw143_0 :), (bc_ HB.out hw143_1 :), (bc_ HB.out hw144_0 :), (bc_ HB.out hw144_1 :), (bc_ HB.out hw144_2 :), (bc_ HB.out hw144_3 :), (bc_ HB.out hw145_0 :), (bc_ HB.out hw145_1 :)⟩ (fun hHeld => ?_)
       clear hK K
       refine norm_ (a' := ?_) ?_ ?_
       rotate_left
       · show Act.put _ (some 53) _ = _
         simp only [Act.put, sA, sB, sC, i64_w, i32_w]
         rfl
       refine p1_ HT_.out 9 54 spec_l19Piece.d10 ?_
       refine p1_ HT_.out 10 55 spec_l19Piece.d11 ?_
       refine p1_ HT_.out 11 56 spec_l19Piece.d12 ?_
       refine p1_ HT_.out 12 57 spec_l19Piece.d13 ?_
       refine p1_ HT_.out 13 58 spec_l19Piece.d14 ?_
       refine p1_ HT_.out 15 60 spec_l19Piece.d15 ?_
       refine take_ (i := 14) (N := some 59) (v := ?_) (a' := ?_) spec_l19Piece.d16 rfl rfl (take_ofW HT_.out HW_.out (by kernel_rfl)) (fun _ _ _ h => h) (Or.inl ⟨by rfl, ?_⟩) hHeld ?_ ?_
       rotate_left
       · rintro w' ⟨s0, s1, s2, s3, s4, s5, s6, s7, s8, s9, s10, s11, s12, s13, s14, s15, s16, s17, s18, s19, s20, s21, s22, s23⟩
         go_simp
         with_reducible rfl
       rotate_left
       · simp only [Act.put, sA, sB, sC, i64_w, i32_w]
         rfl
       refine p1_ HT_.out 16 61 spec_l19Piece.d17 ?_
       refine p1_ HT_.out 17 62 spec_l19Piece.d18 ?_
       refine take_ (i := 18) (N := some 63) (v := ?_) (a' := ?_) spec_l19Piece.d19 rfl rfl (take_ofW HT_.out HW_.out (by kernel_rfl)) (fun _ _ _ h => h) (Or.inl ⟨by rfl, ?_⟩) hHeld ?_ ?_
       rotate_left
       · rintro w' ⟨s0, s1, s2, s3, s4, s5, s6, s7, s8, s9, s10, s11, s12, s13, s14, s15, s16, s17, s18, s19, s20, s21, s22, s23⟩
         go_simp
         with_reducible rfl
       rotate_left
       · simp only [Act.put, sA, sB, sC, i64_w, i32_w]
         rfl
       refine one_ (i := 19) (N := some 64) spec_l19Piece.d20 rfl rfl (one_of HT_.out (by kernel_rfl)) (by decide) (fun K hK => ?_)
       refine goes_ Try.func60 (by kernel_rfl) rfl #[.int .i64 ((rd_T105 ((rd_T53 l0 0).f1) x3_2).f1), .int .i64 0, .int .i64 5] (by rfl) rfl rfl (by (try simp only [List.map_toArray, List.map_cons, List.map_nil]); first | done | rfl | (simp only [List.length_drop, List.length_take]; rfl)) ?_
       with_reducible refine (spec_l00In.calls ((rd_T105 ((rd_T53 l0 0).f1) x3_2).f1) 0 5 true _ A15.out).mono ?_
       rintro e w' ⟨rfl, ⟨nd, rfl⟩⟩
       refine ⟨_, rfl, ?_⟩
       refine hK.out _ _ ⟨(bc_ HB.out hw136_0 :), (bc_ HB.out hw136_1 :), (bc_ HB.out hw136_2 :), (bc_ HB.out hw136_3 :), (bc_ HB.out hw137_0 :), (bc_ HB.out hw137_1 :), (bc_ HB.out hw139_0 :), (bc_ HB.out hw139_1 :), (bc_ HB.out hw139_2 :), (bc_ HB.out hw139_3 :), (bc_ HB.out hw140_0 :), (bc_ HB.out hw140_1 :), (bc_ HB.out hw142_0 :), (bc_ HB.out hw142_1 :), (bc_ HB.out hw142_2 :), (bc_ HB.out hw142_3 :), (bc_ HB.out hw143_0 :), (bc_ HB.out hw143_1 :), (bc_ HB.out hw144_0 :), (bc_ HB.out hw144_1 :), (bc_ HB.out hw144_2 :), (bc_ HB.out hw144_3 :), (bc_ HB.out hw145_0 :), (bc_ HB.out hw145_1 :)⟩ (fun hHeld => ?_)
       clear hK K
       refine norm_ (a' := ?_) ?_ ?_
       rotate_left
       · show Act.put _ (some 64) _ = _
         simp only [Act.put, sA, sB, sC, i64_w, i32_w]
         rfl
       refine p1_ HT_.out 20 65 spec_l19Piece.d21 ?_
       refine p1_ HT_.out 21 66 spec_l19Piece.d22 ?_
       refine p1_ HT_.out 22 67 spec_l19Piece.d23 ?_
       refine p1_ HT_.out 23 68 spec_l19Piece.d24 ?_
       refine p1_ HT_.out 24 69 spec_l19Piece.d25 ?_
       refine p1_ HT_.out 25 70 spec_l19Piece.d26 ?_
       refine p1_ HT_.out 26 71 spec_l19Piece.d27 ?_
       refine p1_ HT_.out 27 72 spec_l19Piece.d28 ?_
       refine p1_ HT_.out 28 73 spec_l19Piece.d29 ?_
       refine p1_ HT_.out 30 75 spec_l19Piece.d30 ?_
       refine p1_ HT_.out 31 76 spec_l19Piece.d31 ?_
       refine p1_ HT_.out 34 79 spec_l19Piece.d32 ?_
       refine p1_ HT_.out 35 80 spec_l19Piece.d33 ?_
       refine p1_ HT_.out 36 81 spec_l19Piece.d34 ?_
       refine p1_ HT_.out 38 83 spec_l19Piece.d35 ?_
       refine take_ (i := 29) (N := some 74) (v := ?_) (a' := ?_) spec_l19Piece.d36 rfl rfl (take_ofW HT_.out HW_.out (by kernel_rfl)) (fun _ _ _ h => h) (Or.inl ⟨by rfl, ?_⟩) hHeld ?_ ?_
       rotate_left
       · rintro w' ⟨s0, s1, s2, s3, s4, s5, s6, s7, s8, s9, s10, s11, s12, s13, s14, s15, s16, s17, s18, s19, s20, s21, s22, s23⟩
         go_simp
         with_reducible rfl
       rotate_left
       · simp only [Act.put, sA, sB, sC, i64_w, i32_w]
         rfl
       refine p1_ HT_.out 32 77 spec_l19Piece.d37 ?_
       refine take_ (i := 33) (N := some 78) (v := ?_) (a' := ?_) spec_l19Piece.d38 rfl rfl (take_ofW HT_.out HW_.out (by kernel_rfl)) (fun _ _ _ h => h) (Or.inl ⟨by rfl, ?_⟩) hHeld ?_ ?_
       rotate_left
       · rintro w' ⟨s0, s1, s2, s3, s4, s5, s6, s7, s8, s9, s10, s11, s12, s13, s14, s15, s16, s17, s18, s19, s20, s21, s22, s23⟩
         go_simp
         with_reducible rfl
       rotate_left
       · simp only [Act.put, sA, sB, sC, i64_w, i32_w]
         rfl
       refine take_ (i := 37) (N := some 82) (v := ?_) (a' := ?_) spec_l19Piece.d39 rfl rfl (take_ofW HT_.out HW_.out (by kernel_rfl)) (fun _ _ _ h => h) (Or.inl ⟨by rfl, ?_⟩) hHeld ?_ ?_
       rotate_left
       · rintro w' ⟨s0, s1, s2, s3, s4, s5, s6, s7, s8, s9, s10, s11, s12, s13, s14, s15, s16, s17, s18, s19, s20, s21, s22, s23⟩
         go_simp
         with_reducible rfl
       rotate_left
       · simp only [Act.put, sA, sB, sC, i64_w, i32_w]
         rfl
       refine p1_ HT_.out 39 84 spec_l19Piece.d40 ?_
       refine take_ (i := 40) (N := some 85) (v := ?_) (a' := ?_) spec_l19Piece.d41 rfl rfl (take_ofW HT_.out HW_.out (by kernel_rfl)) (fun _ _ _ h => h) (Or.inl ⟨by rfl, ?_⟩) hHeld ?_ ?_
       rotate_left
       · rintro w' ⟨s0, s1, s2, s3, s4, s5, s6, s7, s8, s9, s10, s11, s12, s13, s14, s15, s16, s17, s18, s19, s20, s21, s22, s23⟩
         go_simp
         with_reducible rfl
       rotate_left
       · simp only [Act.put, sA, sB, sC, i64_w, i32_w]
         rfl
       refine one_ (i := 41) (N := some 86) spec_l19Piece.d42 rfl rfl (one_of HT_.out (by kernel_rfl)) (by decide) (fun K hK => ?_)
       refine goes_ Try.func92 (by kernel_rfl) rfl #[.agg #[.int .i64 ((rd_T105 ((rd_T53 l0 0).f1) (ji18)).f0), .int .i64 ((rd_T105 ((rd_T53 l0 0).f1) (ji18)).f1)], .agg #[.int .i64 ((rd_T105 ((rd_T53 l0 0).f1) x3_2).f0), .int .i64 ((rd_T105 ((rd_T53 l0 0).f1) x3_2).f1)]] (by rfl) rfl rfl (by (try simp only [List.map_toArray, List.map_cons, List.map_nil]); first | done | (simp only [hji18]; rfl) | rfl | (simp only [List.length_drop, List.length_take]; rfl)) ?_
       with_reducible refine (spec_l19Before.calls ((rd_T105 ((rd_T53 l0 0).f1) (ji18)).f0) ((rd_T105 ((rd_T53 l0 0).f1) (ji18)).f1) ((rd_T105 ((rd_T53 l0 0).f1) x3_2).f0) ((rd_T105 ((rd_T53 l0 0).f1) x3_2).f1) true _ A21.out).mono ?_
       rintro e w24 ⟨rfl, hb⟩
       refine ⟨_, rfl, ?_⟩
       have n0_ := mkA (below_step (bs0_ HB.out) hb)
       clear HB
       have HB := n0_
       clear n0_
       (try clear hb)
       (try clear hb2)
       (try clear hk)
       (try clear hi)
       refine hK.out _ _ ⟨(bc_ HB.out hw136_0 :), (bc_ HB.out hw136_1 :), (bc_ HB.out hw136_2 :), (bc_ HB.out hw136_3 :), (bc_ HB.out hw137_0 :), (bc_ HB.out hw137_1 :), (bc_ HB.out hw139_0 :), (bc_ HB.out hw139_1 :), (bc_ HB.out hw139_2 :), (bc_ HB.out hw139_3 :), (bc_ HB.out hw140_0 :), (bc_ HB.out hw140_1 :), (bc_ HB.out hw142_0 :), (bc_ HB.out hw142_1 :), (bc_ HB.out hw142_2 :), (bc_ HB.out hw142_3 :), (bc_ HB.out hw143_0 :), (bc_ HB.out hw143_1 :), (bc_ HB.out hw144_0 :), (bc_ HB.out hw144_1 :), (bc_ HB.out hw144_2 :), (bc_ HB.out hw144_3 :), (bc_ HB.out hw145_0 :), (bc_ HB.out hw145_1 :)⟩ (fun hHeld => ?_)
       clear hK K
       refine norm_ (a' := ?_) ?_ ?_
       rotate_left
       · show Act.put _ (some 86) _ = _
         simp only [Act.put, sA, sB, sC, i64_w, i32_w]
         rfl
       refine p1_ HT_.out 42 87 spec_l19Piece.d43 ?_
       refine p1_ HT_.out 43 88 spec_l19Piece.d44 ?_
       refine p1_ HT_.out 44 89 spec_l19Piece.d45 ?_
       refine done_ (done_of HT_.out (by kernel_rfl)) ?_
       try go_wp2
       go_roundg k2
       case measure => have := HJ1.out; have := HK2.out; omega
       case rel => exact ⟨(wrap64 (x3_2 + 1)), (by first | rfl | (simp; done) | (simp [*]; done) | (simp [i64_w, i32_w]; done)), H', ⟨by have := HJ1.out; have := HK2.out; omega⟩, ⟨by repeat (first | (with_reducible first | exact HB.out | apply below_alloc | apply pw_below_drewN | apply below_drew1) | exact HB.out)⟩⟩
end Go.Proofs.Ytakagkflgkoiiaa.GFnExactTurnsOfPiece
