-- Written by the session's own program (gen.py) out of the translation's print. Lean checks it.
import Derived.Test.YtnidibnhojedoaaGFnExactIsSymmetryx0
import Derived.Test.YtnidibnhojedoaaGFnExactIsSymmetryx1
import Derived.Test.YtnidibnhojedoaaGFnExactIsSymmetryx4
namespace Go.Proofs.Ytnidibnhojedoaa.GFnExactIsSymmetry
open Go.RowKit Go.Proofs.YtnidibnhojedoaaW.PrintWords Go.Proofs.YtnidibnhojedoaaW.PrintLast Go.Proofs.YtnidibnhojedoaaW.PrintMore
attribute [local go_sem] max2_int min2_int max_two min_two max_three min_three max_four min_four   -- for this text's walks alone
set_option linter.unusedVariables false
set_option linter.unusedSimpArgs false

/-! ### spec_l18Ok: function 53 -/
def spec_l18Ok.f (k : Nat) (l0 : List (S29)) (l1 : List (S31)) : Option (Bool) := if 0 < (l0.length : Int) then ((spec_ValidTiling.f k ((rd_T29 l0 0).f0) ((rd_T29 l0 0).f1) ((rd_T29 l0 0).f2)).bind fun t180 => (if t180 = true then (if 0 < (l1.length : Int) then ((spec_l02Turn.f ((rd_T31 l1 0).f0)).bind fun t182 => (if t182 = true then (if (Int.tmod ((rd_T31 l1 0).f0) 2) = 0 then ((spec_l00In.f ((rd_T31 l1 0).f1) 0 (wrap64 (((rd_T29 l0 0).f0) - 1))).bind fun t186 => (if t186 = true then ((spec_l00In.f ((rd_T31 l1 0).f2) 0 (wrap64 (((rd_T29 l0 0).f1) - 1))).bind fun t189 => (some t189)) else (some false))) else (if ((rd_T29 l0 0).f0) = ((rd_T29 l0 0).f1) then ((spec_l00In.f ((rd_T31 l1 0).f1) 0 (wrap64 (((rd_T29 l0 0).f0) - 1))).bind fun t194 => (if t194 = true then ((spec_l00In.f ((rd_T31 l1 0).f2) 0 (wrap64 (((rd_T29 l0 0).f1) - 1))).bind fun t197 => (some t197)) else (some false))) else (some false))) else (some false))) else (none)) else (some false))) else (none)
theorem spec_l18Ok.mono : ∀ a0 a1 k, LeO (spec_l18Ok.f k a0 a1) (spec_l18Ok.f (k + 1) a0 a1) := by
  intro a0 a1 k
  unfold spec_l18Ok.f
  repeat' first
      | (with_reducible exact spec_ValidTiling.mono _ _ _ _)
      | (with_reducible exact LeO.refl _)
      | (with_reducible exact LeO.none _)
      | (with_reducible refine LeO.ite ?_ ?_)
      | (with_reducible refine LeO.bind ?_ (fun _ => ?_))
      | exact spec_ValidTiling.mono _ _ _ _
      | exact LeO.none _
      | refine LeO.ite ?_ ?_
      | refine LeO.bind ?_ (fun _ => ?_)
def spec_l18Ok.T1 : Bool × List (List Nat × List Nat) := (true, [([], []), ([0], [0]), ([1], [1]), ([2], [2]), ([3, 3], [3]), ([4], [4]), ([5, 4], [4, 5]), ([6, 4], [4, 6]), ([7, 4], [4, 7]), ([8, 4, 4], [4, 8]), ([4, 9], [4, 9]), ([10, 9], [10]), ([11], [11]), ([12, 11], [11, 12]), ([13, 11], [11, 13]), ([14, 11], [11, 14]), ([15, 11], [11, 15]), ([16, 11], [11, 16]), ([17, 11, 11], [11, 17]), ([18], [18]), ([19, 18], [18, 19]), ([20, 18], [18, 20]), ([21, 18], [18, 21]), ([18], [18]), ([23, 18], [18, 23]), ([24, 18], [18, 24]), ([25, 18], [18, 25]), ([22, 26, 18], [18, 22, 26]), ([18, 27, 11], [11, 18, 27]), ([11, 28], [11, 28]), ([29, 18], [29]), ([30], [30]), ([31, 30], [30, 31]), ([32, 30], [30, 32]), ([33, 30], [30, 33]), ([30], [30]), ([35, 30], [30, 35]), ([36, 30], [30, 36]), ([37, 30], [30, 37]), ([38, 30], [30, 38]), ([34, 39, 30, 30], [30, 34, 39]), ([30, 40], [30, 40]), ([41, 40], [41]), ([42], [42]), ([43, 42], [42, 43]), ([44, 42], [42, 44]), ([45, 42], [42, 45]), ([42], [42]), ([47, 42], [42, 47]), ([48, 42], [42, 48]), ([49, 42], [42, 49]), ([50, 42], [42, 50]), ([46, 51, 42, 42], [42, 46, 51]), ([42, 52], [42, 52]), ([53, 52, 0, 1, 2, 3, 4, 5, 6, 7, 8, 9, 10, 11, 12, 13, 14, 15, 16, 17, 18, 19, 20, 21, 22, 23, 24, 25, 26, 27, 28, 29, 30, 31, 32, 33, 34, 35, 36, 37, 38, 39, 40, 41, 42, 43, 44, 45, 46, 47, 48, 49, 50, 51, 52, 53], [53])])
def spec_l18Ok.B1 : List Nat := [0, 1, 3, 7, 15, 31, 63, 127, 255, 511, 1023, 2047, 4095, 8191, 16383, 32767, 65535, 131071, 262143, 524287, 1048575, 2097151, 4194303, 524287, 8912895, 25690111, 59244543, 134217727, 268435455, 536870911, 1073741823, 2147483647, 4294967295, 8589934591, 17179869183, 2147483647, 36507222015, 105226698751, 242665652223, 517543559167, 1099511627775, 2199023255551, 4398046511103, 8796093022207, 17592186044415, 35184372088831, 70368744177663, 8796093022207, 149533581377535, 431008558088191, 993958511509503, 2119858418352127, 4503599627370495, 9007199254740991, 18014398509481983]
theorem spec_l18Ok.tab1 : rtab .any (opsOf Try.f53 1) = spec_l18Ok.T1 := by kernel_rfl
theorem spec_l18Ok.bits1 : waitsOk spec_l18Ok.T1.2 spec_l18Ok.B1 = true := by kernel_rfl
open List renaming setIfInBounds_toArray → sA, set_cons_zero → sB, set_cons_succ → sC
open Go.Proofs.YtnidibnhojedoaaW.PrintWords.Aside0 renaming mk → mkA
open Go.Proofs.YtnidibnhojedoaaX (dt_ bc_ p0_ p1_ bl_ cb_ bs0_ bs1_ bs2_ bs3_ bs4_ bs5_ bs6_ bs7_ bs8_ bs9_ bs10_ bs11_ bs12_)
abbrev spec_l18Ok.d0 : Array Bool := #[false, false, false, false, false, false, false, false, false, false, false, false, false, false, false, false, false, false, false, false, false, false, false, false, false, false, false, false, false, false, false, false, false, false, false, false, false, false, false, false, false, false, false, false, false, false, false, false, false, false, false, false, false, false, false]
abbrev spec_l18Ok.d1 : Array Bool := #[true, false, false, false, false, false, false, false, false, false, false, false, false, false, false, false, false, false, false, false, false, false, false, false, false, false, false, false, false, false, false, false, false, false, false, false, false, false, false, false, false, false, false, false, false, false, false, false, false, false, false, false, false, false, false]
abbrev spec_l18Ok.d2 : Array Bool := #[true, true, false, false, false, false, false, false, false, false, false, false, false, false, false, false, false, false, false, false, false, false, false, false, false, false, false, false, false, false, false, false, false, false, false, false, false, false, false, false, false, false, false, false, false, false, false, false, false, false, false, false, false, false, false]
abbrev spec_l18Ok.d3 : Array Bool := #[true, true, true, false, false, false, false, false, false, false, false, false, false, false, false, false, false, false, false, false, false, false, false, false, false, false, false, false, false, false, false, false, false, false, false, false, false, false, false, false, false, false, false, false, false, false, false, false, false, false, false, false, false, false, false]
abbrev spec_l18Ok.d4 : Array Bool := #[true, true, true, true, false, false, false, false, false, false, false, false, false, false, false, false, false, false, false, false, false, false, false, false, false, false, false, false, false, false, false, false, false, false, false, false, false, false, false, false, false, false, false, false, false, false, false, false, false, false, false, false, false, false, false]
abbrev spec_l18Ok.d5 : Array Bool := #[true, true, true, true, true, false, false, false, false, false, false, false, false, false, false, false, false, false, false, false, false, false, false, false, false, false, false, false, false, false, false, false, false, false, false, false, false, false, false, false, false, false, false, false, false, false, false, false, false, false, false, false, false, false, false]
abbrev spec_l18Ok.d6 : Array Bool := #[true, true, true, true, true, true, false, false, false, false, false, false, false, false, false, false, false, false, false, false, false, false, false, false, false, false, false, false, false, false, false, false, false, false, false, false, false, false, false, false, false, false, false, false, false, false, false, false, false, false, false, false, false, false, false]
abbrev spec_l18Ok.d7 : Array Bool := #[true, true, true, true, true, true, true, false, false, false, false, false, false, false, false, false, false, false, false, false, false, false, false, false, false, false, false, false, false, false, false, false, false, false, false, false, false, false, false, false, false, false, false, false, false, false, false, false, false, false, false, false, false, false, false]
abbrev spec_l18Ok.d8 : Array Bool := #[true, true, true, true, true, true, true, true, false, false, false, false, false, false, false, false, false, false, false, false, false, false, false, false, false, false, false, false, false, false, false, false, false, false, false, false, false, false, false, false, false, false, false, false, false, false, false, false, false, false, false, false, false, false, false]
abbrev spec_l18Ok.d9 : Array Bool := #[true, true, true, true, true, true, true, true, true, false, false, false, false, false, false, false, false, false, false, false, false, false, false, false, false, false, false, false, false, false, false, false, false, false, false, false, false, false, false, false, false, false, false, false, false, false, false, false, false, false, false, false, false, false, false]
abbrev spec_l18Ok.d10 : Array Bool := #[true, true, true, true, true, true, true, true, true, true, false, false, false, false, false, false, false, false, false, false, false, false, false, false, false, false, false, false, false, false, false, false, false, false, false, false, false, false, false, false, false, false, false, false, false, false, false, false, false, false, false, false, false, false, false]
abbrev spec_l18Ok.d11 : Array Bool := #[true, true, true, true, true, true, true, true, true, true, true, false, false, false, false, false, false, false, false, false, false, false, false, false, false, false, false, false, false, false, false, false, false, false, false, false, false, false, false, false, false, false, false, false, false, false, false, false, false, false, false, false, false, false, false]
abbrev spec_l18Ok.d12 : Array Bool := #[true, true, true, true, true, true, true, true, true, true, true, true, false, false, false, false, false, false, false, false, false, false, false, false, false, false, false, false, false, false, false, false, false, false, false, false, false, false, false, false, false, false, false, false, false, false, false, false, false, false, false, false, false, false, false]
abbrev spec_l18Ok.d13 : Array Bool := #[true, true, true, true, true, true, true, true, true, true, true, true, true, false, false, false, false, false, false, false, false, false, false, false, false, false, false, false, false, false, false, false, false, false, false, false, false, false, false, false, false, false, false, false, false, false, false, false, false, false, false, false, false, false, false]
abbrev spec_l18Ok.d14 : Array Bool := #[true, true, true, true, true, true, true, true, true, true, true, true, true, true, false, false, false, false, false, false, false, false, false, false, false, false, false, false, false, false, false, false, false, false, false, false, false, false, false, false, false, false, false, false, false, false, false, false, false, false, false, false, false, false, false]
abbrev spec_l18Ok.d15 : Array Bool := #[true, true, true, true, true, true, true, true, true, true, true, true, true, true, true, false, false, false, false, false, false, false, false, false, false, false, false, false, false, false, false, false, false, false, false, false, false, false, false, false, false, false, false, false, false, false, false, false, false, false, false, false, false, false, false]
abbrev spec_l18Ok.d16 : Array Bool := #[true, true, true, true, true, true, true, true, true, true, true, true, true, true, true, true, false, false, false, false, false, false, false, false, false, false, false, false, false, false, false, false, false, false, false, false, false, false, false, false, false, false, false, false, false, false, false, false, false, false, false, false, false, false, false]
abbrev spec_l18Ok.d17 : Array Bool := #[true, true, true, true, true, true, true, true, true, true, true, true, true, true, true, true, true, false, false, false, false, false, false, false, false, false, false, false, false, false, false, false, false, false, false, false, false, false, false, false, false, false, false, false, false, false, false, false, false, false, false, false, false, false, false]
abbrev spec_l18Ok.d18 : Array Bool := #[true, true, true, true, true, true, true, true, true, true, true, true, true, true, true, true, true, true, false, false, false, false, false, false, false, false, false, false, false, false, false, false, false, false, false, false, false, false, false, false, false, false, false, false, false, false, false, false, false, false, false, false, false, false, false]
abbrev spec_l18Ok.d19 : Array Bool := #[true, true, true, true, true, true, true, true, true, true, true, true, true, true, true, true, true, true, true, false, false, false, false, false, false, false, false, false, false, false, false, false, false, false, false, false, false, false, false, false, false, false, false, false, false, false, false, false, false, false, false, false, false, false, false]
abbrev spec_l18Ok.d20 : Array Bool := #[true, true, true, true, true, true, true, true, true, true, true, true, true, true, true, true, true, true, true, true, false, false, false, false, false, false, false, false, false, false, false, false, false, false, false, false, false, false, false, false, false, false, false, false, false, false, false, false, false, false, false, false, false, false, false]
abbrev spec_l18Ok.d21 : Array Bool := #[true, true, true, true, true, true, true, true, true, true, true, true, true, true, true, true, true, true, true, true, true, false, false, false, false, false, false, false, false, false, false, false, false, false, false, false, false, false, false, false, false, false, false, false, false, false, false, false, false, false, false, false, false, false, false]
abbrev spec_l18Ok.d22 : Array Bool := #[true, true, true, true, true, true, true, true, true, true, true, true, true, true, true, true, true, true, true, true, true, true, false, false, false, false, false, false, false, false, false, false, false, false, false, false, false, false, false, false, false, false, false, false, false, false, false, false, false, false, false, false, false, false, false]
abbrev spec_l18Ok.d23 : Array Bool := #[true, true, true, true, true, true, true, true, true, true, true, true, true, true, true, true, true, true, true, true, true, true, true, false, false, false, false, false, false, false, false, false, false, false, false, false, false, false, false, false, false, false, false, false, false, false, false, false, false, false, false, false, false, false, false]
abbrev spec_l18Ok.d24 : Array Bool := #[true, true, true, true, true, true, true, true, true, true, true, true, true, true, true, true, true, true, true, true, true, true, true, true, false, false, false, false, false, false, false, false, false, false, false, false, false, false, false, false, false, false, false, false, false, false, false, false, false, false, false, false, false, false, false]
abbrev spec_l18Ok.d25 : Array Bool := #[true, true, true, true, true, true, true, true, true, true, true, true, true, true, true, true, true, true, true, true, true, true, true, true, true, false, false, false, false, false, false, false, false, false, false, false, false, false, false, false, false, false, false, false, false, false, false, false, false, false, false, false, false, false, false]
abbrev spec_l18Ok.d26 : Array Bool := #[true, true, true, true, true, true, true, true, true, true, true, true, true, true, true, true, true, true, true, true, true, true, true, true, true, true, false, false, false, false, false, false, false, false, false, false, false, false, false, false, false, false, false, false, false, false, false, false, false, false, false, false, false, false, false]
abbrev spec_l18Ok.d27 : Array Bool := #[true, true, true, true, true, true, true, true, true, true, true, true, true, true, true, true, true, true, true, true, true, true, true, true, true, true, true, false, false, false, false, false, false, false, false, false, false, false, false, false, false, false, false, false, false, false, false, false, false, false, false, false, false, false, false]
abbrev spec_l18Ok.d28 : Array Bool := #[true, true, true, true, true, true, true, true, true, true, true, true, true, true, true, true, true, true, true, true, true, true, true, true, true, true, true, true, false, false, false, false, false, false, false, false, false, false, false, false, false, false, false, false, false, false, false, false, false, false, false, false, false, false, false]
abbrev spec_l18Ok.d29 : Array Bool := #[true, true, true, true, true, true, true, true, true, true, true, true, true, true, true, true, true, true, true, true, true, true, true, true, true, true, true, true, true, false, false, false, false, false, false, false, false, false, false, false, false, false, false, false, false, false, false, false, false, false, false, false, false, false, false]
abbrev spec_l18Ok.d30 : Array Bool := #[true, true, true, true, true, true, true, true, true, true, true, true, true, true, true, true, true, true, true, true, true, true, true, true, true, true, true, true, true, true, false, false, false, false, false, false, false, false, false, false, false, false, false, false, false, false, false, false, false, false, false, false, false, false, false]
abbrev spec_l18Ok.d31 : Array Bool := #[true, true, true, true, true, true, true, true, true, true, true, true, true, true, true, true, true, true, true, true, true, true, true, true, true, true, true, true, true, true, true, false, false, false, false, false, false, false, false, false, false, false, false, false, false, false, false, false, false, false, false, false, false, false, false]
abbrev spec_l18Ok.d32 : Array Bool := #[true, true, true, true, true, true, true, true, true, true, true, true, true, true, true, true, true, true, true, true, true, true, true, true, true, true, true, true, true, true, true, true, false, false, false, false, false, false, false, false, false, false, false, false, false, false, false, false, false, false, false, false, false, false, false]
abbrev spec_l18Ok.d33 : Array Bool := #[true, true, true, true, true, true, true, true, true, true, true, true, true, true, true, true, true, true, true, true, true, true, true, true, true, true, true, true, true, true, true, true, true, false, false, false, false, false, false, false, false, false, false, false, false, false, false, false, false, false, false, false, false, false, false]
abbrev spec_l18Ok.d34 : Array Bool := #[true, true, true, true, true, true, true, true, true, true, true, true, true, true, true, true, true, true, true, true, true, true, true, true, true, true, true, true, true, true, true, true, true, true, false, false, false, false, false, false, false, false, false, false, false, false, false, false, false, false, false, false, false, false, false]
abbrev spec_l18Ok.d35 : Array Bool := #[true, true, true, true, true, true, true, true, true, true, true, true, true, true, true, true, true, true, true, true, true, true, true, true, true, true, true, true, true, true, true, true, true, true, false, true, false, false, false, false, false, false, false, false, false, false, false, false, false, false, false, false, false, false, false]
abbrev spec_l18Ok.d36 : Array Bool := #[true, true, true, true, true, true, true, true, true, true, true, true, true, true, true, true, true, true, true, true, true, true, true, true, true, true, true, true, true, true, true, true, true, true, false, true, true, false, false, false, false, false, false, false, false, false, false, false, false, false, false, false, false, false, false]
abbrev spec_l18Ok.d37 : Array Bool := #[true, true, true, true, true, true, true, true, true, true, true, true, true, true, true, true, true, true, true, true, true, true, true, true, true, true, true, true, true, true, true, true, true, true, false, true, true, true, false, false, false, false, false, false, false, false, false, false, false, false, false, false, false, false, false]
abbrev spec_l18Ok.d38 : Array Bool := #[true, true, true, true, true, true, true, true, true, true, true, true, true, true, true, true, true, true, true, true, true, true, true, true, true, true, true, true, true, true, true, true, true, true, true, true, true, true, false, false, false, false, false, false, false, false, false, false, false, false, false, false, false, false, false]
abbrev spec_l18Ok.d39 : Array Bool := #[true, true, true, true, true, true, true, true, true, true, true, true, true, true, true, true, true, true, true, true, true, true, true, true, true, true, true, true, true, true, true, true, true, true, true, true, true, true, true, false, false, false, false, false, false, false, false, false, false, false, false, false, false, false, false]
abbrev spec_l18Ok.d40 : Array Bool := #[true, true, true, true, true, true, true, true, true, true, true, true, true, true, true, true, true, true, true, true, true, true, true, true, true, true, true, true, true, true, true, true, true, true, true, true, true, true, true, true, false, false, false, false, false, false, false, false, false, false, false, false, false, false, false]
abbrev spec_l18Ok.d41 : Array Bool := #[true, true, true, true, true, true, true, true, true, true, true, true, true, true, true, true, true, true, true, true, true, true, true, true, true, true, true, true, true, true, true, true, true, true, true, true, true, true, true, true, true, false, false, false, false, false, false, false, false, false, false, false, false, false, false]
abbrev spec_l18Ok.d42 : Array Bool := #[true, true, true, true, true, true, true, true, true, true, true, true, true, true, true, true, true, true, true, true, true, true, true, true, true, true, true, true, true, true, true, true, true, true, true, true, true, true, true, true, true, true, false, false, false, false, false, false, false, false, false, false, false, false, false]
abbrev spec_l18Ok.d43 : Array Bool := #[true, true, true, true, true, true, true, true, true, true, true, true, true, true, true, true, true, true, true, true, true, true, true, true, true, true, true, true, true, true, true, true, true, true, true, true, true, true, true, true, true, true, true, false, false, false, false, false, false, false, false, false, false, false, false]
abbrev spec_l18Ok.d44 : Array Bool := #[true, true, true, true, true, true, true, true, true, true, true, true, true, true, true, true, true, true, true, true, true, true, true, true, true, true, true, true, true, true, true, true, true, true, true, true, true, true, true, true, true, true, true, true, false, false, false, false, false, false, false, false, false, false, false]
abbrev spec_l18Ok.d45 : Array Bool := #[true, true, true, true, true, true, true, true, true, true, true, true, true, true, true, true, true, true, true, true, true, true, true, true, true, true, true, true, true, true, true, true, true, true, true, true, true, true, true, true, true, true, true, true, true, false, false, false, false, false, false, false, false, false, false]
abbrev spec_l18Ok.d46 : Array Bool := #[true, true, true, true, true, true, true, true, true, true, true, true, true, true, true, true, true, true, true, true, true, true, true, true, true, true, true, true, true, true, true, true, true, true, true, true, true, true, true, true, true, true, true, true, true, true, false, false, false, false, false, false, false, false, false]
abbrev spec_l18Ok.d47 : Array Bool := #[true, true, true, true, true, true, true, true, true, true, true, true, true, true, true, true, true, true, true, true, true, true, true, true, true, true, true, true, true, true, true, true, true, true, true, true, true, true, true, true, true, true, true, true, true, true, false, true, false, false, false, false, false, false, false]
abbrev spec_l18Ok.d48 : Array Bool := #[true, true, true, true, true, true, true, true, true, true, true, true, true, true, true, true, true, true, true, true, true, true, true, true, true, true, true, true, true, true, true, true, true, true, true, true, true, true, true, true, true, true, true, true, true, true, false, true, true, false, false, false, false, false, false]
abbrev spec_l18Ok.d49 : Array Bool := #[true, true, true, true, true, true, true, true, true, true, true, true, true, true, true, true, true, true, true, true, true, true, true, true, true, true, true, true, true, true, true, true, true, true, true, true, true, true, true, true, true, true, true, true, true, true, false, true, true, true, false, false, false, false, false]
abbrev spec_l18Ok.d50 : Array Bool := #[true, true, true, true, true, true, true, true, true, true, true, true, true, true, true, true, true, true, true, true, true, true, true, true, true, true, true, true, true, true, true, true, true, true, true, true, true, true, true, true, true, true, true, true, true, true, true, true, true, true, false, false, false, false, false]
abbrev spec_l18Ok.d51 : Array Bool := #[true, true, true, true, true, true, true, true, true, true, true, true, true, true, true, true, true, true, true, true, true, true, true, true, true, true, true, true, true, true, true, true, true, true, true, true, true, true, true, true, true, true, true, true, true, true, true, true, true, true, true, false, false, false, false]
abbrev spec_l18Ok.d52 : Array Bool := #[true, true, true, true, true, true, true, true, true, true, true, true, true, true, true, true, true, true, true, true, true, true, true, true, true, true, true, true, true, true, true, true, true, true, true, true, true, true, true, true, true, true, true, true, true, true, true, true, true, true, true, true, false, false, false]
abbrev spec_l18Ok.d53 : Array Bool := #[true, true, true, true, true, true, true, true, true, true, true, true, true, true, true, true, true, true, true, true, true, true, true, true, true, true, true, true, true, true, true, true, true, true, true, true, true, true, true, true, true, true, true, true, true, true, true, true, true, true, true, true, true, false, false]
abbrev spec_l18Ok.d54 : Array Bool := #[true, true, true, true, true, true, true, true, true, true, true, true, true, true, true, true, true, true, true, true, true, true, true, true, true, true, true, true, true, true, true, true, true, true, true, true, true, true, true, true, true, true, true, true, true, true, true, true, true, true, true, true, true, true, false]
abbrev spec_l18Ok.d55 : Array Bool := #[true, true, true, true, true, true, true, true, true, true, true, true, true, true, true, true, true, true, true, true, true, true, true, true, true, true, true, true, true, true, true, true, true, true, true, true, true, true, true, true, true, true, true, true, true, true, true, true, true, true, true, true, true, true, true]
abbrev spec_l18Ok.d56 : Array Bool := #[true, true, true, true, true, true, true, true, true, true, true, true, true, true, true, true, true, true, true, true, true, true, true, true, true, true, true, true, true, true, true, true, true, true, true, true, true, true, true, true, true, true, true, true, true, true, true, false, false, false, false, false, false, false, false]
abbrev spec_l18Ok.d57 : Array Bool := #[true, true, true, true, true, true, true, true, true, true, true, true, true, true, true, true, true, true, true, true, true, true, true, true, true, true, true, true, true, true, true, true, true, true, true, true, true, true, true, true, true, true, true, true, true, true, true, true, false, false, false, false, false, false, false]
abbrev spec_l18Ok.d58 : Array Bool := #[true, true, true, true, true, true, true, true, true, true, true, true, true, true, true, true, true, true, true, true, true, true, true, true, true, true, true, true, true, true, true, true, true, true, true, true, true, true, true, true, true, true, true, true, true, true, true, true, true, false, false, false, false, false, false]
abbrev spec_l18Ok.d59 : Array Bool := #[true, true, true, true, true, true, true, true, true, true, true, true, true, true, true, true, true, true, true, true, true, true, false, true, false, false, false, false, false, false, false, false, false, false, false, false, false, false, false, false, false, false, false, false, false, false, false, false, false, false, false, false, false, false, false]
abbrev spec_l18Ok.d60 : Array Bool := #[true, true, true, true, true, true, true, true, true, true, true, true, true, true, true, true, true, true, true, true, true, true, false, true, true, false, false, false, false, false, false, false, false, false, false, false, false, false, false, false, false, false, false, false, false, false, false, false, false, false, false, false, false, false, false]
abbrev spec_l18Ok.d61 : Array Bool := #[true, true, true, true, true, true, true, true, true, true, true, true, true, true, true, true, true, true, true, true, true, true, false, true, true, true, false, false, false, false, false, false, false, false, false, false, false, false, false, false, false, false, false, false, false, false, false, false, false, false, false, false, false, false, false]
abbrev spec_l18Ok.d62 : Array Bool := #[true, true, true, true, true, true, true, true, true, true, true, true, true, true, true, true, true, true, true, true, true, true, true, true, true, true, true, true, true, true, true, true, true, true, true, false, false, false, false, false, false, false, false, false, false, false, false, false, false, false, false, false, false, false, false]
abbrev spec_l18Ok.d63 : Array Bool := #[true, true, true, true, true, true, true, true, true, true, true, true, true, true, true, true, true, true, true, true, true, true, true, true, true, true, true, true, true, true, true, true, true, true, true, true, false, false, false, false, false, false, false, false, false, false, false, false, false, false, false, false, false, false, false]
abbrev spec_l18Ok.d64 : Array Bool := #[true, true, true, true, true, true, true, true, true, true, true, true, true, true, true, true, true, true, true, true, true, true, true, true, true, true, true, true, true, true, true, true, true, true, true, true, true, false, false, false, false, false, false, false, false, false, false, false, false, false, false, false, false, false, false]
set_option maxHeartbeats 8000000 in
set_option maxRecDepth 100000 in
theorem spec_l18Ok.calls (k : Nat) (A0 : Option Addr) (l0 : List (S29)) (A1 : Option Addr) (l1 : List (S31)) (r : Bool) (w : World) (hr0 : Kd.C k29 w A0 l0.length l0) (hr1 : Kd.C k31 w A1 l1.length l1) (h : spec_l18Ok.f k l0 l1 = some r) :
 Calls Try.prog 53 #[.pointer A0, .pointer A1] w fun e w' => e = .returned (.bool r) ∧ Below w.heap.size w w' := by
 have hu29 := Try.underlying29
 have HR0 := mkA hr0
 clear hr0
 have HR1 := mkA hr1
 clear hr1
 have HB := mkA (Below.refl w.heap.size w)
 have H : (if 0 < (l0.length : Int) then ((spec_ValidTiling.f k ((rd_T29 l0 0).f0) ((rd_T29 l0 0).f1) ((rd_T29 l0 0).f2)).bind fun t180 => (if t180 = true then (if 0 < (l1.length : Int) then ((spec_l02Turn.f ((rd_T31 l1 0).f0)).bind fun t182 => (if t182 = true then (if (Int.tmod ((rd_T31 l1 0).f0) 2) = 0 then ((spec_l00In.f ((rd_T31 l1 0).f1) 0 (wrap64 (((rd_T29 l0 0).f0) - 1))).bind fun t186 => (if t186 = true then ((spec_l00In.f ((rd_T31 l1 0).f2) 0 (wrap64 (((rd_T29 l0 0).f1) - 1))).bind fun t189 => (some t189)) else (some false))) else (if ((rd_T29 l0 0).f0) = ((rd_T29 l0 0).f1) then ((spec_l00In.f ((rd_T31 l1 0).f1) 0 (wrap64 (((rd_T29 l0 0).f0) - 1))).bind fun t194 => (if t194 = true then ((spec_l00In.f ((rd_T31 l1 0).f2) 0 (wrap64 (((rd_T29 l0 0).f1) - 1))).bind fun t197 => (some t197)) else (some false))) else (some false))) else (some false))) else (none)) else (some false))) else (none)) = some r := h
 clear h
 by_cases c3 : 0 < (l0.length : Int)
 rotate_left
 · rw [if_neg c3] at H
   exact absurd H (by simp)

 rw [if_pos c3] at H
 have c3b0 : decide (0 < (l0.length : Int)) = true := decide_eq_true c3
 have c3b1 : decide (0 < l0.length) = true := decide_eq_true (by omega)
 clear c3
 replace H := Option.bind_eq_some_iff.mp H
 obtain ⟨t180, A40, H⟩ := H
 replace H : (if t180 = true then (if 0 < (l1.length : Int) then ((spec_l02Turn.f ((rd_T31 l1 0).f0)).bind fun t182 => (if t182 = true then (if (Int.tmod ((rd_T31 l1 0).f0) 2) = 0 then ((spec_l00In.f ((rd_T31 l1 0).f1) 0 (wrap64 (((rd_T29 l0 0).f0) - 1))).bind fun t186 => (if t186 = true then ((spec_l00In.f ((rd_T31 l1 0).f2) 0 (wrap64 (((rd_T29 l0 0).f1) - 1))).bind fun t189 => (some t189)) else (some false))) else (if ((rd_T29 l0 0).f0) = ((rd_T29 l0 0).f1) then ((spec_l00In.f ((rd_T31 l1 0).f1) 0 (wrap64 (((rd_T29 l0 0).f0) - 1))).bind fun t194 => (if t194 = true then ((spec_l00In.f ((rd_T31 l1 0).f2) 0 (wrap64 (((rd_T29 l0 0).f1) - 1))).bind fun t197 => (some t197)) else (some false))) else (some false))) else (some false))) else (none)) else (some false)) = some r := H
 have A4 := mkA A40
 clear A40
 by_cases c5 : t180 = true
 rotate_left
 · replace c5 := Bool.eq_false_iff.mpr c5
   subst c5
   have H1 : (some false) = some r := by rw [if_neg (show ¬ (false = true) by decide)] at H; exact H
   clear H
   have H := H1
   clear H1
   obtain rfl := Option.some.inj H
   go_enter Try.func53, Try.ntmps53
   try go_wp2
   have n0_ := mkA (below_drew1 HB.out)
   clear HB
   have HB := n0_
   clear n0_
   have p179 : 0 ≤ (0 : Int) := (by omega)
   have q179 : 0 < (l0.length : Int) := dt_
   obtain ⟨ad179, A179_2, c179_2, e179, hx179_0, hx179_1, hx179_2, hl179_2, hi179_2⟩ := at0_T29 HR0.out q179
   have hw179_2 := hx179_2
   have hw179_1 := hx179_1
   have hw179_0 := hx179_0
   cases e179
   have qi179 : (0 < l0.length) = True := eq_true (by omega)
   replace hx179_0 := bc_ HB.out hx179_0
   replace hx179_1 := bc_ HB.out hx179_1
   replace hx179_2 := bc_ HB.out hx179_2
   have HR179_2 := mkA hi179_2
   have HC179_2 := mkA hl179_2
   clear hi179_2 hl179_2
   replace p179 := eq_true p179
   replace q179 := eq_true q179
   refine start_ (n := 55) (S := fun w' => w'.cell? ad179 = some (.int .i64 ((rd_T29 l0 0).f0)) ∧ w'.cell? ⟨ad179.block, ad179.off + 1, none⟩ = some (.int .i64 ((rd_T29 l0 0).f1)) ∧ w'.cell? ⟨ad179.block, ad179.off + 2, none⟩ = some (.slice A179_2 ((rd_T29 l0 0).f2).length c179_2)) (ds := []) spec_l18Ok.d0 (by kernel_rfl) rfl rfl ⟨(bc_ HB.out hw179_0 :), (bc_ HB.out hw179_1 :), (bc_ HB.out hw179_2 :)⟩ (fun hHeld => ?_); refine with_tabW spec_l18Ok.tab1 spec_l18Ok.bits1 (fun HT_ HW_ => ?_)
   generalize w.drew = w29 at HB HR179_2 hx179_0 hx179_1 hx179_2 hHeld ⊢
   refine p1_ HT_.out 0 5 spec_l18Ok.d1 ?_
   refine p1_ HT_.out 1 6 spec_l18Ok.d2 ?_
   refine take_ (i := 2) (N := some 7) (v := ?_) (a' := ?_) spec_l18Ok.d3 rfl rfl (take_ofW HT_.out HW_.out (by kernel_rfl)) (fun _ _ _ h => h) (Or.inl ⟨by rfl, ?_⟩) hHeld ?_ ?_
   rotate_left
   · rintro w' ⟨s0, s1, s2⟩
     go_simp
     with_reducible rfl
   rotate_left
   · simp only [Act.put, sA, sB, sC, i64_w, i32_w]
     rfl
   refine one_ (i := 3) (N := some 8) spec_l18Ok.d4 rfl rfl (one_of HT_.out (by kernel_rfl)) (by decide) (fun K hK => ?_)
   refine goes_ Try.func77 (by kernel_rfl) rfl #[.agg #[.int .i64 ((rd_T29 l0 0).f0), .int .i64 ((rd_T29 l0 0).f1), .slice A179_2 ((rd_T29 l0 0).f2).length c179_2]] (by rfl) rfl rfl (by (try simp only [List.map_toArray, List.map_cons, List.map_nil]); first | done | rfl | (simp only [List.length_drop, List.length_take]; rfl)) ?_
   with_reducible refine (spec_ValidTiling.calls k ((rd_T29 l0 0).f0) ((rd_T29 l0 0).f1) _ _ ((rd_T29 l0 0).f2) false _ ?side1 ?side2 A4.out).mono ?_
   (case side1 => exact cb_ HR179_2.out HB.out)
   (case side2 => exact HC179_2.out)
   rintro e w30 ⟨rfl, hb⟩
   refine ⟨_, rfl, ?_⟩
   have n0_ := mkA (below_step (bs0_ HB.out) hb)
   clear HB
   have HB := n0_
   clear n0_
   (try clear hb)
   (try clear hb2)
   (try clear hk)
   (try clear hi)
   refine hK.out _ _ ⟨(bc_ HB.out hw179_0 :), (bc_ HB.out hw179_1 :), (bc_ HB.out hw179_2 :)⟩ (fun hHeld => ?_)
   clear hK K
   refine norm_ (a' := ?_) ?_ ?_
   rotate_left
   · show Act.put _ (some 8) _ = _
     simp only [Act.put, sA, sB, sC, i64_w, i32_w]
     rfl
   refine p1_ HT_.out 4 9 spec_l18Ok.d5 ?_
   refine p0_ HT_.out 5 10 spec_l18Ok.d6 ?_
   refine p0_ HT_.out 6 11 spec_l18Ok.d7 ?_
   refine p0_ HT_.out 7 12 spec_l18Ok.d8 ?_
   refine p0_ HT_.out 8 13 spec_l18Ok.d9 ?_
   refine p0_ HT_.out 9 14 spec_l18Ok.d10 ?_
   refine p1_ HT_.out 10 15 spec_l18Ok.d11 ?_
   refine p1_ HT_.out 11 16 spec_l18Ok.d12 ?_
   refine p0_ HT_.out 12 17 spec_l18Ok.d13 ?_
   refine p0_ HT_.out 13 18 spec_l18Ok.d14 ?_
   refine p0_ HT_.out 14 19 spec_l18Ok.d15 ?_
   refine p0_ HT_.out 15 20 spec_l18Ok.d16 ?_
   refine p0_ HT_.out 16 21 spec_l18Ok.d17 ?_
   refine p0_ HT_.out 17 22 spec_l18Ok.d18 ?_
   refine p0_ HT_.out 18 23 spec_l18Ok.d19 ?_
   refine p0_ HT_.out 19 24 spec_l18Ok.d20 ?_
   refine p0_ HT_.out 20 25 spec_l18Ok.d21 ?_
   refine p0_ HT_.out 21 26 spec_l18Ok.d22 ?_
   refine p0_ HT_.out 22 27 spec_l18Ok.d23 ?_
   refine p0_ HT_.out 23 28 spec_l18Ok.d24 ?_
   refine p0_ HT_.out 24 29 spec_l18Ok.d25 ?_
   refine p0_ HT_.out 25 30 spec_l18Ok.d26 ?_
   refine p0_ HT_.out 26 31 spec_l18Ok.d27 ?_
   refine p0_ HT_.out 27 32 spec_l18Ok.d28 ?_
   refine p0_ HT_.out 28 33 spec_l18Ok.d29 ?_
   refine p1_ HT_.out 29 34 spec_l18Ok.d30 ?_
   refine p1_ HT_.out 30 35 spec_l18Ok.d31 ?_
   refine p0_ HT_.out 31 36 spec_l18Ok.d32 ?_
   refine p0_ HT_.out 32 37 spec_l18Ok.d33 ?_
   refine p0_ HT_.out 33 38 spec_l18Ok.d34 ?_
   refine p0_ HT_.out 34 39 spec_l18Ok.d62 ?_
   refine p0_ HT_.out 35 40 spec_l18Ok.d63 ?_
   refine p0_ HT_.out 36 41 spec_l18Ok.d64 ?_
   refine p0_ HT_.out 37 42 spec_l18Ok.d38 ?_
   refine p0_ HT_.out 38 43 spec_l18Ok.d39 ?_
   refine p0_ HT_.out 39 44 spec_l18Ok.d40 ?_
   refine p0_ HT_.out 40 45 spec_l18Ok.d41 ?_
   refine p1_ HT_.out 41 46 spec_l18Ok.d42 ?_
   refine p1_ HT_.out 42 47 spec_l18Ok.d43 ?_
   refine p0_ HT_.out 43 48 spec_l18Ok.d44 ?_
   refine p0_ HT_.out 44 49 spec_l18Ok.d45 ?_
   refine p0_ HT_.out 45 50 spec_l18Ok.d46 ?_
   refine p0_ HT_.out 46 51 spec_l18Ok.d56 ?_
   refine p0_ HT_.out 47 52 spec_l18Ok.d57 ?_
   refine p0_ HT_.out 48 53 spec_l18Ok.d58 ?_
   refine p0_ HT_.out 49 54 spec_l18Ok.d50 ?_
   refine p0_ HT_.out 50 55 spec_l18Ok.d51 ?_
   refine p0_ HT_.out 51 56 spec_l18Ok.d52 ?_
   refine p0_ HT_.out 52 57 spec_l18Ok.d53 ?_
   refine p1_ HT_.out 53 58 spec_l18Ok.d54 ?_
   refine p1_ HT_.out 54 4 spec_l18Ok.d55 ?_
   refine done_ (done_of HT_.out (by kernel_rfl)) ?_
   try go_wp2
   go_ret
   exact ⟨by first | rfl | (simp [errW_none, errW_some] <;> rfl) | (simp [*, errW_none, errW_some] <;> rfl), by repeat (first | (with_reducible first | exact HB.out | apply below_alloc | apply pw_below_drewN | apply below_drew1) | exact HB.out)⟩
 subst c5
 have H1 : (if 0 < (l1.length : Int) then ((spec_l02Turn.f ((rd_T31 l1 0).f0)).bind fun t182 => (if t182 = true then (if (Int.tmod ((rd_T31 l1 0).f0) 2) = 0 then ((spec_l00In.f ((rd_T31 l1 0).f1) 0 (wrap64 (((rd_T29 l0 0).f0) - 1))).bind fun t186 => (if t186 = true then ((spec_l00In.f ((rd_T31 l1 0).f2) 0 (wrap64 (((rd_T29 l0 0).f1) - 1))).bind fun t189 => (some t189)) else (some false))) else (if ((rd_T29 l0 0).f0) = ((rd_T29 l0 0).f1) then ((spec_l00In.f ((rd_T31 l1 0).f1) 0 (wrap64 (((rd_T29 l0 0).f0) - 1))).bind fun t194 => (if t194 = true then ((spec_l00In.f ((rd_T31 l1 0).f2) 0 (wrap64 (((rd_T29 l0 0).f1) - 1))).bind fun t197 => (some t197)) else (some false))) else (some false))) else (some false))) else (none)) = some r := by rw [if_pos rfl] at H; exact H
 clear H
 have H := H1
 clear H1
 by_cases c6 : 0 < (l1.length : Int)
 rotate_left
 · rw [if_neg c6] at H
   exact absurd H (by simp)
 rw [if_pos c6] at H
 have c6b0 : decide (0 < (l1.length : Int)) = true := decide_eq_true c6
 have c6b1 : decide (0 < l1.length) = true := decide_eq_true (by omega)
 clear c6
 replace H := Option.bind_eq_some_iff.mp H
 obtain ⟨t182, A70, H⟩ := H
 replace H : (if t182 = true then (if (Int.tmod ((rd_T31 l1 0).f0) 2) = 0 then ((spec_l00In.f ((rd_T31 l1 0).f1) 0 (wrap64 (((rd_T29 l0 0).f0) - 1))).bind fun t186 => (if t186 = true then ((spec_l00In.f ((rd_T31 l1 0).f2) 0 (wrap64 (((rd_T29 l0 0).f1) - 1))).bind fun t189 => (some t189)) else (some false))) else (if ((rd_T29 l0 0).f0) = ((rd_T29 l0 0).f1) then ((spec_l00In.f ((rd_T31 l1 0).f1) 0 (wrap64 (((rd_T29 l0 0).f0) - 1))).bind fun t194 => (if t194 = true then ((spec_l00In.f ((rd_T31 l1 0).f2) 0 (wrap64 (((rd_T29 l0 0).f1) - 1))).bind fun t197 => (some t197)) else (some false))) else (some false))) else (some false)) = some r := H
 have A7 := mkA A70
 clear A70
 by_cases c8 : t182 = true
 rotate_left
 · replace c8 := Bool.eq_false_iff.mpr c8
   subst c8
   have H1 : (some false) = some r := by rw [if_neg (show ¬ (false = true) by decide)] at H; exact H
   clear H
   have H := H1
   clear H1
   obtain rfl := Option.some.inj H
   go_enter Try.func53, Try.ntmps53
   try go_wp2
   have n0_ := mkA (below_drew1 HB.out)
   clear HB
   have HB := n0_
   clear n0_
   have p179 : 0 ≤ (0 : Int) := (by omega)
   have q179 : 0 < (l0.length : Int) := dt_
   obtain ⟨ad179, A179_2, c179_2, e179, hx179_0, hx179_1, hx179_2, hl179_2, hi179_2⟩ := at0_T29 HR0.out q179
   have hw179_2 := hx179_2
   have hw179_1 := hx179_1
   have hw179_0 := hx179_0
   cases e179
   have qi179 : (0 < l0.length) = True := eq_true (by omega)
   replace hx179_0 := bc_ HB.out hx179_0
   replace hx179_1 := bc_ HB.out hx179_1
   replace hx179_2 := bc_ HB.out hx179_2
   have HR179_2 := mkA hi179_2
   have HC179_2 := mkA hl179_2
   clear hi179_2 hl179_2
   replace p179 := eq_true p179
   replace q179 := eq_true q179
   have p181 : 0 ≤ (0 : Int) := (by omega)
   have q181 : 0 < (l1.length : Int) := dt_
   obtain ⟨ad181, e181, hx181_0, hx181_1, hx181_2⟩ := at0_T31 HR1.out q181
   have hw181_2 := hx181_2
   have hw181_1 := hx181_1
   have hw181_0 := hx181_0
   cases e181
   have qi181 : (0 < l1.length) = True := eq_true (by omega)
   replace hx181_0 := bc_ HB.out hx181_0
   replace hx181_1 := bc_ HB.out hx181_1
   replace hx181_2 := bc_ HB.out hx181_2
   replace p181 := eq_true p181
   replace q181 := eq_true q181
   refine start_ (n := 55) (S := fun w' => w'.cell? ad179 = some (.int .i64 ((rd_T29 l0 0).f0)) ∧ w'.cell? ⟨ad179.block, ad179.off + 1, none⟩ = some (.int .i64 ((rd_T29 l0 0).f1)) ∧ w'.cell? ⟨ad179.block, ad179.off + 2, none⟩ = some (.slice A179_2 ((rd_T29 l0 0).f2).length c179_2) ∧ w'.cell? ad181 = some (.int .i64 ((rd_T31 l1 0).f0)) ∧ w'.cell? ⟨ad181.block, ad181.off + 1, none⟩ = some (.int .i64 ((rd_T31 l1 0).f1)) ∧ w'.cell? ⟨ad181.block, ad181.off + 2, none⟩ = some (.int .i64 ((rd_T31 l1 0).f2))) (ds := []) spec_l18Ok.d0 (by kernel_rfl) rfl rfl ⟨(bc_ HB.out hw179_0 :), (bc_ HB.out hw179_1 :), (bc_ HB.out hw179_2 :), (bc_ HB.out hw181_0 :), (bc_ HB.out hw181_1 :), (bc_ HB.out hw181_2 :)⟩ (fun hHeld => ?_); refine with_tabW spec_l18Ok.tab1 spec_l18Ok.bits1 (fun HT_ HW_ => ?_)
   generalize w.drew = w27 at HB HR179_2 hx179_0 hx179_1 hx179_2 hx181_0 hx181_1 hx181_2 hHeld ⊢
   refine p1_ HT_.out 0 5 spec_l18Ok.d1 ?_
   refine p1_ HT_.out 1 6 spec_l18Ok.d2 ?_
   refine take_ (i := 2) (N := some 7) (v := ?_) (a' := ?_) spec_l18Ok.d3 rfl rfl (take_ofW HT_.out HW_.out (by kernel_rfl)) (fun _ _ _ h => h) (Or.inl ⟨by rfl, ?_⟩) hHeld ?_ ?_
   rotate_left
   · rintro w' ⟨s0, s1, s2, s3, s4, s5⟩
     go_simp
     with_reducible rfl
   rotate_left
   · simp only [Act.put, sA, sB, sC, i64_w, i32_w]
     rfl
   refine one_ (i := 3) (N := some 8) spec_l18Ok.d4 rfl rfl (one_of HT_.out (by kernel_rfl)) (by decide) (fun K hK => ?_)
   refine goes_ Try.func77 (by kernel_rfl) rfl #[.agg #[.int .i64 ((rd_T29 l0 0).f0), .int .i64 ((rd_T29 l0 0).f1), .slice A179_2 ((rd_T29 l0 0).f2).length c179_2]] (by rfl) rfl rfl (by (try simp only [List.map_toArray, List.map_cons, List.map_nil]); first | done | rfl | (simp only [List.length_drop, List.length_take]; rfl)) ?_
   with_reducible refine (spec_ValidTiling.calls k ((rd_T29 l0 0).f0) ((rd_T29 l0 0).f1) _ _ ((rd_T29 l0 0).f2) true _ ?side1 ?side2 A4.out).mono ?_
   (case side1 => exact cb_ HR179_2.out HB.out)
   (case side2 => exact HC179_2.out)
   rintro e w28 ⟨rfl, hb⟩
   refine ⟨_, rfl, ?_⟩
   have n0_ := mkA (below_step (bs0_ HB.out) hb)
   clear HB
   have HB := n0_
   clear n0_
   (try clear hb)
   (try clear hb2)
   (try clear hk)
   (try clear hi)
   refine hK.out _ _ ⟨(bc_ HB.out hw179_0 :), (bc_ HB.out hw179_1 :), (bc_ HB.out hw179_2 :), (bc_ HB.out hw181_0 :), (bc_ HB.out hw181_1 :), (bc_ HB.out hw181_2 :)⟩ (fun hHeld => ?_)
   clear hK K
   refine norm_ (a' := ?_) ?_ ?_
   rotate_left
   · show Act.put _ (some 8) _ = _
     simp only [Act.put, sA, sB, sC, i64_w, i32_w]
     rfl
   refine p1_ HT_.out 4 9 spec_l18Ok.d5 ?_
   refine p1_ HT_.out 5 10 spec_l18Ok.d6 ?_
   refine p1_ HT_.out 6 11 spec_l18Ok.d7 ?_
   refine p1_ HT_.out 7 12 spec_l18Ok.d8 ?_
   refine take_ (i := 8) (N := some 13) (v := ?_) (a' := ?_) spec_l18Ok.d9 rfl rfl (take_ofW HT_.out HW_.out (by kernel_rfl)) (fun _ _ _ h => h) (Or.inl ⟨by rfl, ?_⟩) hHeld ?_ ?_
   rotate_left
   · rintro w' ⟨s0, s1, s2, s3, s4, s5⟩
     go_simp
     with_reducible rfl
   rotate_left
   · simp only [Act.put, sA, sB, sC, i64_w, i32_w]
     rfl
   refine one_ (i := 9) (N := some 14) spec_l18Ok.d10 rfl rfl (one_of HT_.out (by kernel_rfl)) (by decide) (fun K hK => ?_)
   refine goes_ Try.func83 (by kernel_rfl) rfl #[.int .i64 ((rd_T31 l1 0).f0)] (by rfl) rfl rfl (by (try simp only [List.map_toArray, List.map_cons, List.map_nil]); first | done | rfl | (simp only [List.length_drop, List.length_take]; rfl)) ?_
   with_reducible refine (spec_l02Turn.calls ((rd_T31 l1 0).f0) false _ A7.out).mono ?_
   rintro e w' ⟨rfl, ⟨nd, rfl⟩⟩
   refine ⟨_, rfl, ?_⟩
   refine hK.out _ _ ⟨(bc_ HB.out hw179_0 :), (bc_ HB.out hw179_1 :), (bc_ HB.out hw179_2 :), (bc_ HB.out hw181_0 :), (bc_ HB.out hw181_1 :), (bc_ HB.out hw181_2 :)⟩ (fun hHeld => ?_)
   clear hK K
   refine norm_ (a' := ?_) ?_ ?_
   rotate_left
   · show Act.put _ (some 14) _ = _
     simp only [Act.put, sA, sB, sC, i64_w, i32_w]
     rfl
   refine p1_ HT_.out 10 15 spec_l18Ok.d11 ?_
   refine p1_ HT_.out 11 16 spec_l18Ok.d12 ?_
   refine p0_ HT_.out 12 17 spec_l18Ok.d13 ?_
   refine p0_ HT_.out 13 18 spec_l18Ok.d14 ?_
   refine p0_ HT_.out 14 19 spec_l18Ok.d15 ?_
   refine p0_ HT_.out 15 20 spec_l18Ok.d16 ?_
   refine p0_ HT_.out 16 21 spec_l18Ok.d17 ?_
   refine p0_ HT_.out 17 22 spec_l18Ok.d18 ?_
   refine p0_ HT_.out 18 23 spec_l18Ok.d19 ?_
   refine p0_ HT_.out 19 24 spec_l18Ok.d20 ?_
   refine p0_ HT_.out 20 25 spec_l18Ok.d21 ?_
   refine p0_ HT_.out 21 26 spec_l18Ok.d22 ?_
   refine p0_ HT_.out 22 27 spec_l18Ok.d23 ?_
   refine p0_ HT_.out 23 28 spec_l18Ok.d24 ?_
   refine p0_ HT_.out 24 29 spec_l18Ok.d25 ?_
   refine p0_ HT_.out 25 30 spec_l18Ok.d26 ?_
   refine p0_ HT_.out 26 31 spec_l18Ok.d27 ?_
   refine p0_ HT_.out 27 32 spec_l18Ok.d28 ?_
   refine p0_ HT_.out 28 33 spec_l18Ok.d29 ?_
   refine p1_ HT_.out 29 34 spec_l18Ok.d30 ?_
   refine p1_ HT_.out 30 35 spec_l18Ok.d31 ?_
   refine p0_ HT_.out 31 36 spec_l18Ok.d32 ?_
   refine p0_ HT_.out 32 37 spec_l18Ok.d33 ?_
   refine p0_ HT_.out 33 38 spec_l18Ok.d34 ?_
   refine p0_ HT_.out 34 39 spec_l18Ok.d62 ?_
   refine p0_ HT_.out 35 40 spec_l18Ok.d63 ?_
   refine p0_ HT_.out 36 41 spec_l18Ok.d64 ?_
   refine p0_ HT_.out 37 42 spec_l18Ok.d38 ?_
   refine p0_ HT_.out 38 43 spec_l18Ok.d39 ?_
   refine p0_ HT_.out 39 44 spec_l18Ok.d40 ?_
   refine p0_ HT_.out 40 45 spec_l18Ok.d41 ?_
   refine p1_ HT_.out 41 46 spec_l18Ok.d42 ?_
   refine p1_ HT_.out 42 47 spec_l18Ok.d43 ?_
   refine p0_ HT_.out 43 48 spec_l18Ok.d44 ?_
   refine p0_ HT_.out 44 49 spec_l18Ok.d45 ?_
   refine p0_ HT_.out 45 50 spec_l18Ok.d46 ?_
   refine p0_ HT_.out 46 51 spec_l18Ok.d56 ?_
   refine p0_ HT_.out 47 52 spec_l18Ok.d57 ?_
   refine p0_ HT_.out 48 53 spec_l18Ok.d58 ?_
   refine p0_ HT_.out 49 54 spec_l18Ok.d50 ?_
   refine p0_ HT_.out 50 55 spec_l18Ok.d51 ?_
   refine p0_ HT_.out 51 56 spec_l18Ok.d52 ?_
   refine p0_ HT_.out 52 57 spec_l18Ok.d53 ?_
   refine p1_ HT_.out 53 58 spec_l18Ok.d54 ?_
   refine p1_ HT_.out 54 4 spec_l18Ok.d55 ?_
   refine done_ (done_of HT_.out (by kernel_rfl)) ?_
   try go_wp2
   go_ret
   exact ⟨by first | rfl | (simp [errW_none, errW_some] <;> rfl) | (simp [*, errW_none, errW_some] <;> rfl), by repeat (first | (with_reducible first | exact HB.out | apply below_alloc | apply pw_below_drewN | apply below_drew1) | exact HB.out)⟩
 subst c8
 have H1 : (if (Int.tmod ((rd_T31 l1 0).f0) 2) = 0 then ((spec_l00In.f ((rd_T31 l1 0).f1) 0 (wrap64 (((rd_T29 l0 0).f0) - 1))).bind fun t186 => (if t186 = true then ((spec_l00In.f ((rd_T31 l1 0).f2) 0 (wrap64 (((rd_T29 l0 0).f1) - 1))).bind fun t189 => (some t189)) else (some false))) else (if ((rd_T29 l0 0).f0) = ((rd_T29 l0 0).f1) then ((spec_l00In.f ((rd_T31 l1 0).f1) 0 (wrap64 (((rd_T29 l0 0).f0) - 1))).bind fun t194 => (if t194 = true then ((spec_l00In.f ((rd_T31 l1 0).f2) 0 (wrap64 (((rd_T29 l0 0).f1) - 1))).bind fun t197 => (some t197)) else (some false))) else (some false))) = some r := by rw [if_pos rfl] at H; exact H
 clear H
 have H := H1
 clear H1
 by_cases c9 : (Int.tmod ((rd_T31 l1 0).f0) 2) = 0
 · rw [if_pos c9] at H
   have c9b0 : ((Int.tmod ((rd_T31 l1 0).f0) 2) == 0) = true := beq_iff_eq.mpr c9
   have c9b1 : ((Int.tmod ((rd_T31 l1 0).f0) 2) != 0) = false := bne_eq_false_iff_eq.mpr c9
   clear c9
   replace H := Option.bind_eq_some_iff.mp H
   obtain ⟨t186, A100, H⟩ := H
   replace H : (if t186 = true then ((spec_l00In.f ((rd_T31 l1 0).f2) 0 (wrap64 (((rd_T29 l0 0).f1) - 1))).bind fun t189 => (some t189)) else (some false)) = some r := H
   have A10 := mkA A100
   clear A100
   by_cases c11 : t186 = true
   rotate_left
   · replace c11 := Bool.eq_false_iff.mpr c11
     subst c11
     have H1 : (some false) = some r := by rw [if_neg (show ¬ (false = true) by decide)] at H; exact H
     clear H
     have H := H1
     clear H1
     obtain rfl := Option.some.inj H
     go_enter Try.func53, Try.ntmps53
     try go_wp2
     have n0_ := mkA (below_drew1 HB.out)
     clear HB
     have HB := n0_
     clear n0_
     have p179 : 0 ≤ (0 : Int) := (by omega)
     have q179 : 0 < (l0.length : Int) := dt_
     obtain ⟨ad179, A179_2, c179_2, e179, hx179_0, hx179_1, hx179_2, hl179_2, hi179_2⟩ := at0_T29 HR0.out q179
     have hw179_2 := hx179_2
     have hw179_1 := hx179_1
     have hw179_0 := hx179_0
     cases e179
     have qi179 : (0 < l0.length) = True := eq_true (by omega)
     replace hx179_0 := bc_ HB.out hx179_0
     replace hx179_1 := bc_ HB.out hx179_1
     replace hx179_2 := bc_ HB.out hx179_2
     have HR179_2 := mkA hi179_2
     have HC179_2 := mkA hl179_2
     clear hi179_2 hl179_2
     replace p179 := eq_true p179
     replace q179 := eq_true q179
     have p181 : 0 ≤ (0 : Int) := (by omega)
     have q181 : 0 < (l1.length : Int) := dt_
     obtain ⟨ad181, e181, hx181_0, hx181_1, hx181_2⟩ := at0_T31 HR1.out q181
     have hw181_2 := hx181_2
     have hw181_1 := hx181_1
     have hw181_0 := hx181_0
     cases e181
     have qi181 : (0 < l1.length) = True := eq_true (by omega)
     replace hx181_0 := bc_ HB.out hx181_0
     replace hx181_1 := bc_ HB.out hx181_1
     replace hx181_2 := bc_ HB.out hx181_2
     replace p181 := eq_true p181
     replace q181 := eq_true q181
     have p183 : 0 ≤ (0 : Int) := (by omega)
     have q183 : 0 < (l1.length : Int) := dt_
     obtain ⟨ad183, e183, hx183_0, hx183_1, hx183_2⟩ := at0_T31 HR1.out q183
     have hw183_2 := hx183_2
     have hw183_1 := hx183_1
     have hw183_0 := hx183_0
     obtain rfl : ad181 = ad183 := (by injection e183)
     have qi183 : (0 < l1.length) = True := eq_true (by omega)
     replace hx183_0 := bc_ HB.out hx183_0
     replace hx183_1 := bc_ HB.out hx183_1
     replace hx183_2 := bc_ HB.out hx183_2
     replace p183 := eq_true p183
     replace q183 := eq_true q183
     have p184 : 0 ≤ (0 : Int) := (by omega)
     have q184 : 0 < (l1.length : Int) := dt_
     obtain ⟨ad184, e184, hx184_0, hx184_1, hx184_2⟩ := at0_T31 HR1.out q184
     have hw184_2 := hx184_2
     have hw184_1 := hx184_1
     have hw184_0 := hx184_0
     obtain rfl : ad181 = ad184 := (by injection e184)
     have qi184 : (0 < l1.length) = True := eq_true (by omega)
     replace hx184_0 := bc_ HB.out hx184_0
     replace hx184_1 := bc_ HB.out hx184_1
     replace hx184_2 := bc_ HB.out hx184_2
     replace p184 := eq_true p184
     replace q184 := eq_true q184
     have p185 : 0 ≤ (0 : Int) := (by omega)
     have q185 : 0 < (l0.length : Int) := dt_
     obtain ⟨ad185, A185_2, c185_2, e185, hx185_0, hx185_1, hx185_2, hl185_2, hi185_2⟩ := at0_T29 HR0.out q185
     have hw185_2 := hx185_2
     have hw185_1 := hx185_1
     have hw185_0 := hx185_0
     obtain rfl : ad179 = ad185 := (by injection e185)
     have qi185 : (0 < l0.length) = True := eq_true (by omega)
     replace hx185_0 := bc_ HB.out hx185_0
     replace hx185_1 := bc_ HB.out hx185_1
     replace hx185_2 := bc_ HB.out hx185_2
     have HR185_2 := mkA hi185_2
     have HC185_2 := mkA hl185_2
     clear hi185_2 hl185_2
     replace p185 := eq_true p185
     replace q185 := eq_true q185
     refine start_ (n := 55) (S := fun w' => w'.cell? ad179 = some (.int .i64 ((rd_T29 l0 0).f0)) ∧ w'.cell? ⟨ad179.block, ad179.off + 1, none⟩ = some (.int .i64 ((rd_T29 l0 0).f1)) ∧ w'.cell? ⟨ad179.block, ad179.off + 2, none⟩ = some (.slice A179_2 ((rd_T29 l0 0).f2).length c179_2) ∧ w'.cell? ad181 = some (.int .i64 ((rd_T31 l1 0).f0)) ∧ w'.cell? ⟨ad181.block, ad181.off + 1, none⟩ = some (.int .i64 ((rd_T31 l1 0).f1)) ∧ w'.cell? ⟨ad181.block, ad181.off + 2, none⟩ = some (.int .i64 ((rd_T31 l1 0).f2)) ∧ w'.cell? ad181 = some (.int .i64 ((rd_T31 l1 0).f0)) ∧ w'.cell? ⟨ad181.block, ad181.off + 1, none⟩ = some (.int .i64 ((rd_T31 l1 0).f1)) ∧ w'.cell? ⟨ad181.block, ad181.off + 2, none⟩ = some (.int .i64 ((rd_T31 l1 0).f2)) ∧ w'.cell? ad181 = some (.int .i64 ((rd_T31 l1 0).f0)) ∧ w'.cell? ⟨ad181.block, ad181.off + 1, none⟩ = some (.int .i64 ((rd_T31 l1 0).f1)) ∧ w'.cell? ⟨ad181.block, ad181.off + 2, none⟩ = some (.int .i64 ((rd_T31 l1 0).f2)) ∧ w'.cell? ad179 = some (.int .i64 ((rd_T29 l0 0).f0)) ∧ w'.cell? ⟨ad179.block, ad179.off + 1, none⟩ = some (.int .i64 ((rd_T29 l0 0).f1)) ∧ w'.cell? ⟨ad179.block, ad179.off + 2, none⟩ = some (.slice A185_2 ((rd_T29 l0 0).f2).length c185_2)) (ds := []) spec_l18Ok.d0 (by kernel_rfl) rfl rfl ⟨(bc_ HB.out hw179_0 :), (bc_ HB.out hw179_1 :), (bc_ HB.out hw179_2 :), (bc_ HB.out hw181_0 :), (bc_ HB.out hw181_1 :), (bc_ HB.out hw181_2 :), (bc_ HB.out hw183_0 :), (bc_ HB.out hw183_1 :), (bc_ HB.out hw183_2 :), (bc_ HB.out hw184_0 :), (bc_ HB.out hw184_1 :), (bc_ HB.out hw184_2 :), (bc_ HB.out hw185_0 :), (bc_ HB.out hw185_1 :), (bc_ HB.out hw185_2 :)⟩ (fun hHeld => ?_); refine with_tabW spec_l18Ok.tab1 spec_l18Ok.bits1 (fun HT_ HW_ => ?_)
     generalize w.drew = w15 at HB HR179_2 HR185_2 hx179_0 hx179_1 hx179_2 hx181_0 hx181_1 hx181_2 hx183_0 hx183_1 hx183_2 hx184_0 hx184_1 hx184_2 hx185_0 hx185_1 hx185_2 hHeld ⊢
     refine p1_ HT_.out 0 5 spec_l18Ok.d1 ?_
     refine p1_ HT_.out 1 6 spec_l18Ok.d2 ?_
     refine take_ (i := 2) (N := some 7) (v := ?_) (a' := ?_) spec_l18Ok.d3 rfl rfl (take_ofW HT_.out HW_.out (by kernel_rfl)) (fun _ _ _ h => h) (Or.inl ⟨by rfl, ?_⟩) hHeld ?_ ?_
     rotate_left
     · rintro w' ⟨s0, s1, s2, s3, s4, s5, s6, s7, s8, s9, s10, s11, s12, s13, s14⟩
       go_simp
       with_reducible rfl
     rotate_left
     · simp only [Act.put, sA, sB, sC, i64_w, i32_w]
       rfl
     refine one_ (i := 3) (N := some 8) spec_l18Ok.d4 rfl rfl (one_of HT_.out (by kernel_rfl)) (by decide) (fun K hK => ?_)
     refine goes_ Try.func77 (by kernel_rfl) rfl #[.agg #[.int .i64 ((rd_T29 l0 0).f0), .int .i64 ((rd_T29 l0 0).f1), .slice A179_2 ((rd_T29 l0 0).f2).length c179_2]] (by rfl) rfl rfl (by (try simp only [List.map_toArray, List.map_cons, List.map_nil]); first | done | rfl | (simp only [List.length_drop, List.length_take]; rfl)) ?_
     with_reducible refine (spec_ValidTiling.calls k ((rd_T29 l0 0).f0) ((rd_T29 l0 0).f1) _ _ ((rd_T29 l0 0).f2) true _ ?side1 ?side2 A4.out).mono ?_
     (case side1 => exact cb_ HR179_2.out HB.out)
     (case side2 => exact HC179_2.out)
     rintro e w16 ⟨rfl, hb⟩
     refine ⟨_, rfl, ?_⟩
     have n0_ := mkA (below_step (bs0_ HB.out) hb)
     clear HB
     have HB := n0_
     clear n0_
     (try clear hb)
     (try clear hb2)
     (try clear hk)
     (try clear hi)
     refine hK.out _ _ ⟨(bc_ HB.out hw179_0 :), (bc_ HB.out hw179_1 :), (bc_ HB.out hw179_2 :), (bc_ HB.out hw181_0 :), (bc_ HB.out hw181_1 :), (bc_ HB.out hw181_2 :), (bc_ HB.out hw183_0 :), (bc_ HB.out hw183_1 :), (bc_ HB.out hw183_2 :), (bc_ HB.out hw184_0 :), (bc_ HB.out hw184_1 :), (bc_ HB.out hw184_2 :), (bc_ HB.out hw185_0 :), (bc_ HB.out hw185_1 :), (bc_ HB.out hw185_2 :)⟩ (fun hHeld => ?_)
     clear hK K
     refine norm_ (a' := ?_) ?_ ?_
     rotate_left
     · show Act.put _ (some 8) _ = _
       simp only [Act.put, sA, sB, sC, i64_w, i32_w]
       rfl
     refine p1_ HT_.out 4 9 spec_l18Ok.d5 ?_
     refine p1_ HT_.out 5 10 spec_l18Ok.d6 ?_
     refine p1_ HT_.out 6 11 spec_l18Ok.d7 ?_
     refine p1_ HT_.out 7 12 spec_l18Ok.d8 ?_
     refine take_ (i := 8) (N := some 13) (v := ?_) (a' := ?_) spec_l18Ok.d9 rfl rfl (take_ofW HT_.out HW_.out (by kernel_rfl)) (fun _ _ _ h => h) (Or.inl ⟨by rfl, ?_⟩) hHeld ?_ ?_
     rotate_left
     · rintro w' ⟨s0, s1, s2, s3, s4, s5, s6, s7, s8, s9, s10, s11, s12, s13, s14⟩
       go_simp
       with_reducible rfl
     rotate_left
     · simp only [Act.put, sA, sB, sC, i64_w, i32_w]
       rfl
     refine one_ (i := 9) (N := some 14) spec_l18Ok.d10 rfl rfl (one_of HT_.out (by kernel_rfl)) (by decide) (fun K hK => ?_)
     refine goes_ Try.func83 (by kernel_rfl) rfl #[.int .i64 ((rd_T31 l1 0).f0)] (by rfl) rfl rfl (by (try simp only [List.map_toArray, List.map_cons, List.map_nil]); first | done | rfl | (simp only [List.length_drop, List.length_take]; rfl)) ?_
     with_reducible refine (spec_l02Turn.calls ((rd_T31 l1 0).f0) true _ A7.out).mono ?_
     rintro e w' ⟨rfl, ⟨nd, rfl⟩⟩
     refine ⟨_, rfl, ?_⟩
     refine hK.out _ _ ⟨(bc_ HB.out hw179_0 :), (bc_ HB.out hw179_1 :), (bc_ HB.out hw179_2 :), (bc_ HB.out hw181_0 :), (bc_ HB.out hw181_1 :), (bc_ HB.out hw181_2 :), (bc_ HB.out hw183_0 :), (bc_ HB.out hw183_1 :), (bc_ HB.out hw183_2 :), (bc_ HB.out hw184_0 :), (bc_ HB.out hw184_1 :), (bc_ HB.out hw184_2 :), (bc_ HB.out hw185_0 :), (bc_ HB.out hw185_1 :), (bc_ HB.out hw185_2 :)⟩ (fun hHeld => ?_)
     clear hK K
     refine norm_ (a' := ?_) ?_ ?_
     rotate_left
     · show Act.put _ (some 14) _ = _
       simp only [Act.put, sA, sB, sC, i64_w, i32_w]
       rfl
     refine p1_ HT_.out 10 15 spec_l18Ok.d11 ?_
     refine p1_ HT_.out 11 16 spec_l18Ok.d12 ?_
     refine p1_ HT_.out 12 17 spec_l18Ok.d13 ?_
     refine p1_ HT_.out 13 18 spec_l18Ok.d14 ?_
     refine p1_ HT_.out 14 19 spec_l18Ok.d15 ?_
     refine take_ (i := 15) (N := some 20) (v := ?_) (a' := ?_) spec_l18Ok.d16 rfl rfl (take_ofW HT_.out HW_.out (by kernel_rfl)) (fun _ _ _ h => h) (Or.inl ⟨by rfl, ?_⟩) hHeld ?_ ?_
     rotate_left
     · rintro w' ⟨s0, s1, s2, s3, s4, s5, s6, s7, s8, s9, s10, s11, s12, s13, s14⟩
       go_simp
       with_reducible rfl
     rotate_left
     · simp only [Act.put, sA, sB, sC, i64_w, i32_w]
       rfl
     refine p1_ HT_.out 16 21 spec_l18Ok.d17 ?_
     refine p1_ HT_.out 17 22 spec_l18Ok.d18 ?_
     refine p1_ HT_.out 18 23 spec_l18Ok.d19 ?_
     refine p0_ HT_.out 19 24 spec_l18Ok.d20 ?_
     refine p0_ HT_.out 20 25 spec_l18Ok.d21 ?_
     refine p0_ HT_.out 21 26 spec_l18Ok.d22 ?_
     refine p0_ HT_.out 22 27 spec_l18Ok.d23 ?_
     refine p0_ HT_.out 23 28 spec_l18Ok.d24 ?_
     refine p0_ HT_.out 24 29 spec_l18Ok.d25 ?_
     refine p0_ HT_.out 25 30 spec_l18Ok.d26 ?_
     refine p0_ HT_.out 26 31 spec_l18Ok.d27 ?_
     refine p0_ HT_.out 27 32 spec_l18Ok.d28 ?_
     refine p1_ HT_.out 28 33 spec_l18Ok.d29 ?_
     refine p1_ HT_.out 29 34 spec_l18Ok.d30 ?_
     refine p1_ HT_.out 30 35 spec_l18Ok.d31 ?_
     refine p1_ HT_.out 31 36 spec_l18Ok.d32 ?_
     refine p1_ HT_.out 32 37 spec_l18Ok.d33 ?_
     refine p1_ HT_.out 33 38 spec_l18Ok.d34 ?_
     refine p1_ HT_.out 35 40 spec_l18Ok.d35 ?_
     refine p1_ HT_.out 36 41 spec_l18Ok.d36 ?_
     refine p1_ HT_.out 37 42 spec_l18Ok.d37 ?_
     refine take_ (i := 34) (N := some 39) (v := ?_) (a' := ?_) spec_l18Ok.d38 rfl rfl (take_ofW HT_.out HW_.out (by kernel_rfl)) (fun _ _ _ h => h) (Or.inl ⟨by rfl, ?_⟩) hHeld ?_ ?_
     rotate_left
     · rintro w' ⟨s0, s1, s2, s3, s4, s5, s6, s7, s8, s9, s10, s11, s12, s13, s14⟩
       go_simp
       with_reducible rfl
     rotate_left
     · simp only [Act.put, sA, sB, sC, i64_w, i32_w]
       rfl
     refine take_ (i := 38) (N := some 43) (v := ?_) (a' := ?_) spec_l18Ok.d39 rfl rfl (take_ofW HT_.out HW_.out (by kernel_rfl)) (fun _ _ _ h => h) (Or.inl ⟨by rfl, ?_⟩) hHeld ?_ ?_
     rotate_left
     · rintro w' ⟨s0, s1, s2, s3, s4, s5, s6, s7, s8, s9, s10, s11, s12, s13, s14⟩
       go_simp
       with_reducible rfl
     rotate_left
     · simp only [Act.put, sA, sB, sC, i64_w, i32_w]
       rfl
     refine p1_ HT_.out 39 44 spec_l18Ok.d40 ?_
     refine one_ (i := 40) (N := some 45) spec_l18Ok.d41 rfl rfl (one_of HT_.out (by kernel_rfl)) (by decide) (fun K hK => ?_)
     refine goes_ Try.func57 (by kernel_rfl) rfl #[.int .i64 ((rd_T31 l1 0).f1), .int .i64 0, .int .i64 (wrap64 (((rd_T29 l0 0).f0) - 1))] (by rfl) rfl rfl (by (try simp only [List.map_toArray, List.map_cons, List.map_nil]); first | done | rfl | (simp only [List.length_drop, List.length_take]; rfl)) ?_
     with_reducible refine (spec_l00In.calls ((rd_T31 l1 0).f1) 0 (wrap64 (((rd_T29 l0 0).f0) - 1)) false _ A10.out).mono ?_
     rintro e w' ⟨rfl, ⟨nd, rfl⟩⟩
     refine ⟨_, rfl, ?_⟩
     refine hK.out _ _ ⟨(bc_ HB.out hw179_0 :), (bc_ HB.out hw179_1 :), (bc_ HB.out hw179_2 :), (bc_ HB.out hw181_0 :), (bc_ HB.out hw181_1 :), (bc_ HB.out hw181_2 :), (bc_ HB.out hw183_0 :), (bc_ HB.out hw183_1 :), (bc_ HB.out hw183_2 :), (bc_ HB.out hw184_0 :), (bc_ HB.out hw184_1 :), (bc_ HB.out hw184_2 :), (bc_ HB.out hw185_0 :), (bc_ HB.out hw185_1 :), (bc_ HB.out hw185_2 :)⟩ (fun hHeld => ?_)
     clear hK K
     refine norm_ (a' := ?_) ?_ ?_
     rotate_left
     · show Act.put _ (some 45) _ = _
       simp only [Act.put, sA, sB, sC, i64_w, i32_w]
       rfl
     refine p1_ HT_.out 41 46 spec_l18Ok.d42 ?_
     refine p1_ HT_.out 42 47 spec_l18Ok.d43 ?_
     refine p0_ HT_.out 43 48 spec_l18Ok.d44 ?_
     refine p0_ HT_.out 44 49 spec_l18Ok.d45 ?_
     refine p0_ HT_.out 45 50 spec_l18Ok.d46 ?_
     refine p0_ HT_.out 46 51 spec_l18Ok.d56 ?_
     refine p0_ HT_.out 47 52 spec_l18Ok.d57 ?_
     refine p0_ HT_.out 48 53 spec_l18Ok.d58 ?_
     refine p0_ HT_.out 49 54 spec_l18Ok.d50 ?_
     refine p0_ HT_.out 50 55 spec_l18Ok.d51 ?_
     refine p0_ HT_.out 51 56 spec_l18Ok.d52 ?_
     refine p0_ HT_.out 52 57 spec_l18Ok.d53 ?_
     refine p1_ HT_.out 53 58 spec_l18Ok.d54 ?_
     refine p1_ HT_.out 54 4 spec_l18Ok.d55 ?_
     refine done_ (done_of HT_.out (by kernel_rfl)) ?_
     try go_wp2
     go_ret
     exact ⟨by first | rfl | (simp [errW_none, errW_some] <;> rfl) | (simp [*, errW_none, errW_some] <;> rfl), by repeat (first | (with_reducible first | exact HB.out | apply below_alloc | apply pw_below_drewN | apply below_drew1) | exact HB.out)⟩
   subst c11
   have H1 : ((spec_l00In.f ((rd_T31 l1 0).f2) 0 (wrap64 (((rd_T29 l0 0).f1) - 1))).bind fun t189 => (some t189)) = some r := by rw [if_pos rfl] at H; exact H
   clear H
   have H := H1
   clear H1
   replace H := Option.bind_eq_some_iff.mp H
   obtain ⟨t189, A120, H⟩ := H
   replace H : (some t189) = some r := H
   have A12 := mkA A120
   clear A120
   obtain rfl := Option.some.inj H
   go_enter Try.func53, Try.ntmps53
   try go_wp2
   have n0_ := mkA (below_drew1 HB.out)
   clear HB
   have HB := n0_
   clear n0_
   have p179 : 0 ≤ (0 : Int) := (by omega)
   have q179 : 0 < (l0.length : Int) := dt_
   obtain ⟨ad179, A179_2, c179_2, e179, hx179_0, hx179_1, hx179_2, hl179_2, hi179_2⟩ := at0_T29 HR0.out q179
   have hw179_2 := hx179_2
   have hw179_1 := hx179_1
   have hw179_0 := hx179_0
   cases e179
   have qi179 : (0 < l0.length) = True := eq_true (by omega)
   replace hx179_0 := bc_ HB.out hx179_0
   replace hx179_1 := bc_ HB.out hx179_1
   replace hx179_2 := bc_ HB.out hx179_2
   have HR179_2 := mkA hi179_2
   have HC179_2 := mkA hl179_2
   clear hi179_2 hl179_2
   replace p179 := eq_true p179
   replace q179 := eq_true q179
   have p181 : 0 ≤ (0 : Int) := (by omega)
   have q181 : 0 < (l1.length : Int) := dt_
   obtain ⟨ad181, e181, hx181_0, hx181_1, hx181_2⟩ := at0_T31 HR1.out q181
   have hw181_2 := hx181_2
   have hw181_1 := hx181_1
   have hw181_0 := hx181_0
   cases e181
   have qi181 : (0 < l1.length) = True := eq_true (by omega)
   replace hx181_0 := bc_ HB.out hx181_0
   replace hx181_1 := bc_ HB.out hx181_1
   replace hx181_2 := bc_ HB.out hx181_2
   replace p181 := eq_true p181
   replace q181 := eq_true q181
   have p183 : 0 ≤ (0 : Int) := (by omega)
   have q183 : 0 < (l1.length : Int) := dt_
   obtain ⟨ad183, e183, hx183_0, hx183_1, hx183_2⟩ := at0_T31 HR1.out q183
   have hw183_2 := hx183_2
   have hw183_1 := hx183_1
   have hw183_0 := hx183_0
   obtain rfl : ad181 = ad183 := (by injection e183)
   have qi183 : (0 < l1.length) = True := eq_true (by omega)
   replace hx183_0 := bc_ HB.out hx183_0
   replace hx183_1 := bc_ HB.out hx183_1
   replace hx183_2 := bc_ HB.out hx183_2
   replace p183 := eq_true p183
   replace q183 := eq_true q183
   have p184 : 0 ≤ (0 : Int) := (by omega)
   have q184 : 0 < (l1.length : Int) := dt_
   obtain ⟨ad184, e184, hx184_0, hx184_1, hx184_2⟩ := at0_T31 HR1.out q184
   have hw184_2 := hx184_2
   have hw184_1 := hx184_1
   have hw184_0 := hx184_0
   obtain rfl : ad181 = ad184 := (by injection e184)
   have qi184 : (0 < l1.length) = True := eq_true (by omega)
   replace hx184_0 := bc_ HB.out hx184_0
   replace hx184_1 := bc_ HB.out hx184_1
   replace hx184_2 := bc_ HB.out hx184_2
   replace p184 := eq_true p184
   replace q184 := eq_true q184
   have p185 : 0 ≤ (0 : Int) := (by omega)
   have q185 : 0 < (l0.length : Int) := dt_
   obtain ⟨ad185, A185_2, c185_2, e185, hx185_0, hx185_1, hx185_2, hl185_2, hi185_2⟩ := at0_T29 HR0.out q185
   have hw185_2 := hx185_2
   have hw185_1 := hx185_1
   have hw185_0 := hx185_0
   obtain rfl : ad179 = ad185 := (by injection e185)
   have qi185 : (0 < l0.length) = True := eq_true (by omega)
   replace hx185_0 := bc_ HB.out hx185_0
   replace hx185_1 := bc_ HB.out hx185_1
   replace hx185_2 := bc_ HB.out hx185_2
   have HR185_2 := mkA hi185_2
   have HC185_2 := mkA hl185_2
   clear hi185_2 hl185_2
   replace p185 := eq_true p185
   replace q185 := eq_true q185
   have p187 : 0 ≤ (0 : Int) := (by omega)
   have q187 : 0 < (l1.length : Int) := dt_
   obtain ⟨ad187, e187, hx187_0, hx187_1, hx187_2⟩ := at0_T31 HR1.out q187
   have hw187_2 := hx187_2
   have hw187_1 := hx187_1
   have hw187_0 := hx187_0
   obtain rfl : ad181 = ad187 := (by injection e187)
   have qi187 : (0 < l1.length) = True := eq_true (by omega)
   replace hx187_0 := bc_ HB.out hx187_0
   replace hx187_1 := bc_ HB.out hx187_1
   replace hx187_2 := bc_ HB.out hx187_2
   replace p187 := eq_true p187
   replace q187 := eq_true q187
   have p188 : 0 ≤ (0 : Int) := (by omega)
   have q188 : 0 < (l0.length : Int) := dt_
   obtain ⟨ad188, A188_2, c188_2, e188, hx188_0, hx188_1, hx188_2, hl188_2, hi188_2⟩ := at0_T29 HR0.out q188
   have hw188_2 := hx188_2
   have hw188_1 := hx188_1
   have hw188_0 := hx188_0
   obtain rfl : ad179 = ad188 := (by injection e188)
   have qi188 : (0 < l0.length) = True := eq_true (by omega)
   replace hx188_0 := bc_ HB.out hx188_0
   replace hx188_1 := bc_ HB.out hx188_1
   replace hx188_2 := bc_ HB.out hx188_2
   have HR188_2 := mkA hi188_2
   have HC188_2 := mkA hl188_2
   clear hi188_2 hl188_2
   replace p188 := eq_true p188
   replace q188 := eq_true q188
   have ea_ := Option.some.inj (hx185_2.symm.trans hx188_2)
   injection ea_ with ea_ en_ ec_
   subst ea_
   subst ec_
   clear en_
   refine start_ (n := 55) (S := fun w' => w'.cell? ad179 = some (.int .i64 ((rd_T29 l0 0).f0)) ∧ w'.cell? ⟨ad179.block, ad179.off + 1, none⟩ = some (.int .i64 ((rd_T29 l0 0).f1)) ∧ w'.cell? ⟨ad179.block, ad179.off + 2, none⟩ = some (.slice A179_2 ((rd_T29 l0 0).f2).length c179_2) ∧ w'.cell? ad181 = some (.int .i64 ((rd_T31 l1 0).f0)) ∧ w'.cell? ⟨ad181.block, ad181.off + 1, none⟩ = some (.int .i64 ((rd_T31 l1 0).f1)) ∧ w'.cell? ⟨ad181.block, ad181.off + 2, none⟩ = some (.int .i64 ((rd_T31 l1 0).f2)) ∧ w'.cell? ad181 = some (.int .i64 ((rd_T31 l1 0).f0)) ∧ w'.cell? ⟨ad181.block, ad181.off + 1, none⟩ = some (.int .i64 ((rd_T31 l1 0).f1)) ∧ w'.cell? ⟨ad181.block, ad181.off + 2, none⟩ = some (.int .i64 ((rd_T31 l1 0).f2)) ∧ w'.cell? ad181 = some (.int .i64 ((rd_T31 l1 0).f0)) ∧ w'.cell? ⟨ad181.block, ad181.off + 1, none⟩ = some (.int .i64 ((rd_T31 l1 0).f1)) ∧ w'.cell? ⟨ad181.block, ad181.off + 2, none⟩ = some (.int .i64 ((rd_T31 l1 0).f2)) ∧ w'.cell? ad179 = some (.int .i64 ((rd_T29 l0 0).f0)) ∧ w'.cell? ⟨ad179.block, ad179.off + 1, none⟩ = some (.int .i64 ((rd_T29 l0 0).f1)) ∧ w'.cell? ⟨ad179.block, ad179.off + 2, none⟩ = some (.slice A185_2 ((rd_T29 l0 0).f2).length c185_2) ∧ w'.cell? ad181 = some (.int .i64 ((rd_T31 l1 0).f0)) ∧ w'.cell? ⟨ad181.block, ad181.off + 1, none⟩ = some (.int .i64 ((rd_T31 l1 0).f1)) ∧ w'.cell? ⟨ad181.block, ad181.off + 2, none⟩ = some (.int .i64 ((rd_T31 l1 0).f2)) ∧ w'.cell? ad179 = some (.int .i64 ((rd_T29 l0 0).f0)) ∧ w'.cell? ⟨ad179.block, ad179.off + 1, none⟩ = some (.int .i64 ((rd_T29 l0 0).f1)) ∧ w'.cell? ⟨ad179.block, ad179.off + 2, none⟩ = some (.slice A185_2 ((rd_T29 l0 0).f2).length c185_2)) (ds := []) spec_l18Ok.d0 (by kernel_rfl) rfl rfl ⟨(bc_ HB.out hw179_0 :), (bc_ HB.out hw179_1 :), (bc_ HB.out hw179_2 :), (bc_ HB.out hw181_0 :), (bc_ HB.out hw181_1 :), (bc_ HB.out hw181_2 :), (bc_ HB.out hw183_0 :), (bc_ HB.out hw183_1 :), (bc_ HB.out hw183_2 :), (bc_ HB.out hw184_0 :), (bc_ HB.out hw184_1 :), (bc_ HB.out hw184_2 :), (bc_ HB.out hw185_0 :), (bc_ HB.out hw185_1 :), (bc_ HB.out hw185_2 :), (bc_ HB.out hw187_0 :), (bc_ HB.out hw187_1 :), (bc_ HB.out hw187_2 :), (bc_ HB.out hw188_0 :), (bc_ HB.out hw188_1 :), (bc_ HB.out hw188_2 :)⟩ (fun hHeld => ?_); refine with_tabW spec_l18Ok.tab1 spec_l18Ok.bits1 (fun HT_ HW_ => ?_)
   generalize w.drew = w13 at HB HR179_2 HR185_2 HR188_2 hx179_0 hx179_1 hx179_2 hx181_0 hx181_1 hx181_2 hx183_0 hx183_1 hx183_2 hx184_0 hx184_1 hx184_2 hx185_0 hx185_1 hx185_2 hx187_0 hx187_1 hx187_2 hx188_0 hx188_1 hx188_2 hHeld ⊢
   refine p1_ HT_.out 0 5 spec_l18Ok.d1 ?_
   refine p1_ HT_.out 1 6 spec_l18Ok.d2 ?_
   refine take_ (i := 2) (N := some 7) (v := ?_) (a' := ?_) spec_l18Ok.d3 rfl rfl (take_ofW HT_.out HW_.out (by kernel_rfl)) (fun _ _ _ h => h) (Or.inl ⟨by rfl, ?_⟩) hHeld ?_ ?_
   rotate_left
   · rintro w' ⟨s0, s1, s2, s3, s4, s5, s6, s7, s8, s9, s10, s11, s12, s13, s14, s15, s16, s17, s18, s19, s20⟩
     go_simp
     with_reducible rfl
   rotate_left
   · simp only [Act.put, sA, sB, sC, i64_w, i32_w]
     rfl
   refine one_ (i := 3) (N := some 8) spec_l18Ok.d4 rfl rfl (one_of HT_.out (by kernel_rfl)) (by decide) (fun K hK => ?_)
   refine goes_ Try.func77 (by kernel_rfl) rfl #[.agg #[.int .i64 ((rd_T29 l0 0).f0), .int .i64 ((rd_T29 l0 0).f1), .slice A179_2 ((rd_T29 l0 0).f2).length c179_2]] (by rfl) rfl rfl (by (try simp only [List.map_toArray, List.map_cons, List.map_nil]); first | done | rfl | (simp only [List.length_drop, List.length_take]; rfl)) ?_
   with_reducible refine (spec_ValidTiling.calls k ((rd_T29 l0 0).f0) ((rd_T29 l0 0).f1) _ _ ((rd_T29 l0 0).f2) true _ ?side1 ?side2 A4.out).mono ?_
   (case side1 => exact cb_ HR179_2.out HB.out)
   (case side2 => exact HC179_2.out)
   rintro e w14 ⟨rfl, hb⟩
   refine ⟨_, rfl, ?_⟩
   have n0_ := mkA (below_step (bs0_ HB.out) hb)
   clear HB
   have HB := n0_
   clear n0_
   (try clear hb)
   (try clear hb2)
   (try clear hk)
   (try clear hi)
   refine hK.out _ _ ⟨(bc_ HB.out hw179_0 :), (bc_ HB.out hw179_1 :), (bc_ HB.out hw179_2 :), (bc_ HB.out hw181_0 :), (bc_ HB.out hw181_1 :), (bc_ HB.out hw181_2 :), (bc_ HB.out hw183_0 :), (bc_ HB.out hw183_1 :), (bc_ HB.out hw183_2 :), (bc_ HB.out hw184_0 :), (bc_ HB.out hw184_1 :), (bc_ HB.out hw184_2 :), (bc_ HB.out hw185_0 :), (bc_ HB.out hw185_1 :), (bc_ HB.out hw185_2 :), (bc_ HB.out hw187_0 :), (bc_ HB.out hw187_1 :), (bc_ HB.out hw187_2 :), (bc_ HB.out hw188_0 :), (bc_ HB.out hw188_1 :), (bc_ HB.out hw188_2 :)⟩ (fun hHeld => ?_)
   clear hK K
   refine norm_ (a' := ?_) ?_ ?_
   rotate_left
   · show Act.put _ (some 8) _ = _
     simp only [Act.put, sA, sB, sC, i64_w, i32_w]
     rfl
   refine p1_ HT_.out 4 9 spec_l18Ok.d5 ?_
   refine p1_ HT_.out 5 10 spec_l18Ok.d6 ?_
   refine p1_ HT_.out 6 11 spec_l18Ok.d7 ?_
   refine p1_ HT_.out 7 12 spec_l18Ok.d8 ?_
   refine take_ (i := 8) (N := some 13) (v := ?_) (a' := ?_) spec_l18Ok.d9 rfl rfl (take_ofW HT_.out HW_.out (by kernel_rfl)) (fun _ _ _ h => h) (Or.inl ⟨by rfl, ?_⟩) hHeld ?_ ?_
   rotate_left
   · rintro w' ⟨s0, s1, s2, s3, s4, s5, s6, s7, s8, s9, s10, s11, s12, s13, s14, s15, s16, s17, s18, s19, s20⟩
     go_simp
     with_reducible rfl
   rotate_left
   · simp only [Act.put, sA, sB, sC, i64_w, i32_w]
     rfl
   refine one_ (i := 9) (N := some 14) spec_l18Ok.d10 rfl rfl (one_of HT_.out (by kernel_rfl)) (by decide) (fun K hK => ?_)
   refine goes_ Try.func83 (by kernel_rfl) rfl #[.int .i64 ((rd_T31 l1 0).f0)] (by rfl) rfl rfl (by (try simp only [List.map_toArray, List.map_cons, List.map_nil]); first | done | rfl | (simp only [List.length_drop, List.length_take]; rfl)) ?_
   with_reducible refine (spec_l02Turn.calls ((rd_T31 l1 0).f0) true _ A7.out).mono ?_
   rintro e w' ⟨rfl, ⟨nd, rfl⟩⟩
   refine ⟨_, rfl, ?_⟩
   refine hK.out _ _ ⟨(bc_ HB.out hw179_0 :), (bc_ HB.out hw179_1 :), (bc_ HB.out hw179_2 :), (bc_ HB.out hw181_0 :), (bc_ HB.out hw181_1 :), (bc_ HB.out hw181_2 :), (bc_ HB.out hw183_0 :), (bc_ HB.out hw183_1 :), (bc_ HB.out hw183_2 :), (bc_ HB.out hw184_0 :), (bc_ HB.out hw184_1 :), (bc_ HB.out hw184_2 :), (bc_ HB.out hw185_0 :), (bc_ HB.out hw185_1 :), (bc_ HB.out hw185_2 :), (bc_ HB.out hw187_0 :), (bc_ HB.out hw187_1 :), (bc_ HB.out hw187_2 :), (bc_ HB.out hw188_0 :), (bc_ HB.out hw188_1 :), (bc_ HB.out hw188_2 :)⟩ (fun hHeld => ?_)
   clear hK K
   refine norm_ (a' := ?_) ?_ ?_
   rotate_left
   · show Act.put _ (some 14) _ = _
     simp only [Act.put, sA, sB, sC, i64_w, i32_w]
     rfl
   refine p1_ HT_.out 10 15 spec_l18Ok.d11 ?_
   refine p1_ HT_.out 11 16 spec_l18Ok.d12 ?_
   refine p1_ HT_.out 12 17 spec_l18Ok.d13 ?_
   refine p1_ HT_.out 13 18 spec_l18Ok.d14 ?_
   refine p1_ HT_.out 14 19 spec_l18Ok.d15 ?_
   refine take_ (i := 15) (N := some 20) (v := ?_) (a' := ?_) spec_l18Ok.d16 rfl rfl (take_ofW HT_.out HW_.out (by kernel_rfl)) (fun _ _ _ h => h) (Or.inl ⟨by rfl, ?_⟩) hHeld ?_ ?_
   rotate_left
   · rintro w' ⟨s0, s1, s2, s3, s4, s5, s6, s7, s8, s9, s10, s11, s12, s13, s14, s15, s16, s17, s18, s19, s20⟩
     go_simp
     with_reducible rfl
   rotate_left
   · simp only [Act.put, sA, sB, sC, i64_w, i32_w]
     rfl
   refine p1_ HT_.out 16 21 spec_l18Ok.d17 ?_
   refine p1_ HT_.out 17 22 spec_l18Ok.d18 ?_
   refine p1_ HT_.out 18 23 spec_l18Ok.d19 ?_
   refine p0_ HT_.out 19 24 spec_l18Ok.d20 ?_
   refine p0_ HT_.out 20 25 spec_l18Ok.d21 ?_
   refine p0_ HT_.out 21 26 spec_l18Ok.d22 ?_
   refine p0_ HT_.out 22 27 spec_l18Ok.d23 ?_
   refine p0_ HT_.out 23 28 spec_l18Ok.d24 ?_
   refine p0_ HT_.out 24 29 spec_l18Ok.d25 ?_
   refine p0_ HT_.out 25 30 spec_l18Ok.d26 ?_
   refine p0_ HT_.out 26 31 spec_l18Ok.d27 ?_
   refine p0_ HT_.out 27 32 spec_l18Ok.d28 ?_
   refine p1_ HT_.out 28 33 spec_l18Ok.d29 ?_
   refine p1_ HT_.out 29 34 spec_l18Ok.d30 ?_
   refine p1_ HT_.out 30 35 spec_l18Ok.d31 ?_
   refine p1_ HT_.out 31 36 spec_l18Ok.d32 ?_
   refine p1_ HT_.out 32 37 spec_l18Ok.d33 ?_
   refine p1_ HT_.out 33 38 spec_l18Ok.d34 ?_
   refine p1_ HT_.out 35 40 spec_l18Ok.d35 ?_
   refine p1_ HT_.out 36 41 spec_l18Ok.d36 ?_
   refine p1_ HT_.out 37 42 spec_l18Ok.d37 ?_
   refine take_ (i := 34) (N := some 39) (v := ?_) (a' := ?_) spec_l18Ok.d38 rfl rfl (take_ofW HT_.out HW_.out (by kernel_rfl)) (fun _ _ _ h => h) (Or.inl ⟨by rfl, ?_⟩) hHeld ?_ ?_
   rotate_left
   · rintro w' ⟨s0, s1, s2, s3, s4, s5, s6, s7, s8, s9, s10, s11, s12, s13, s14, s15, s16, s17, s18, s19, s20⟩
     go_simp
     with_reducible rfl
   rotate_left
   · simp only [Act.put, sA, sB, sC, i64_w, i32_w]
     rfl
   refine take_ (i := 38) (N := some 43) (v := ?_) (a' := ?_) spec_l18Ok.d39 rfl rfl (take_ofW HT_.out HW_.out (by kernel_rfl)) (fun _ _ _ h => h) (Or.inl ⟨by rfl, ?_⟩) hHeld ?_ ?_
   rotate_left
   · rintro w' ⟨s0, s1, s2, s3, s4, s5, s6, s7, s8, s9, s10, s11, s12, s13, s14, s15, s16, s17, s18, s19, s20⟩
     go_simp
     with_reducible rfl
   rotate_left
   · simp only [Act.put, sA, sB, sC, i64_w, i32_w]
     rfl
   refine p1_ HT_.out 39 44 spec_l18Ok.d40 ?_
   refine one_ (i := 40) (N := some 45) spec_l18Ok.d41 rfl rfl (one_of HT_.out (by kernel_rfl)) (by decide) (fun K hK => ?_)
   refine goes_ Try.func57 (by kernel_rfl) rfl #[.int .i64 ((rd_T31 l1 0).f1), .int .i64 0, .int .i64 (wrap64 (((rd_T29 l0 0).f0) - 1))] (by rfl) rfl rfl (by (try simp only [List.map_toArray, List.map_cons, List.map_nil]); first | done | rfl | (simp only [List.length_drop, List.length_take]; rfl)) ?_
   with_reducible refine (spec_l00In.calls ((rd_T31 l1 0).f1) 0 (wrap64 (((rd_T29 l0 0).f0) - 1)) true _ A10.out).mono ?_
   rintro e w' ⟨rfl, ⟨nd, rfl⟩⟩
   refine ⟨_, rfl, ?_⟩
   refine hK.out _ _ ⟨(bc_ HB.out hw179_0 :), (bc_ HB.out hw179_1 :), (bc_ HB.out hw179_2 :), (bc_ HB.out hw181_0 :), (bc_ HB.out hw181_1 :), (bc_ HB.out hw181_2 :), (bc_ HB.out hw183_0 :), (bc_ HB.out hw183_1 :), (bc_ HB.out hw183_2 :), (bc_ HB.out hw184_0 :), (bc_ HB.out hw184_1 :), (bc_ HB.out hw184_2 :), (bc_ HB.out hw185_0 :), (bc_ HB.out hw185_1 :), (bc_ HB.out hw185_2 :), (bc_ HB.out hw187_0 :), (bc_ HB.out hw187_1 :), (bc_ HB.out hw187_2 :), (bc_ HB.out hw188_0 :), (bc_ HB.out hw188_1 :), (bc_ HB.out hw188_2 :)⟩ (fun hHeld => ?_)
   clear hK K
   refine norm_ (a' := ?_) ?_ ?_
   rotate_left
   · show Act.put _ (some 45) _ = _
     simp only [Act.put, sA, sB, sC, i64_w, i32_w]
     rfl
   refine p1_ HT_.out 41 46 spec_l18Ok.d42 ?_
   refine p1_ HT_.out 42 47 spec_l18Ok.d43 ?_
   refine p1_ HT_.out 43 48 spec_l18Ok.d44 ?_
   refine p1_ HT_.out 44 49 spec_l18Ok.d45 ?_
   refine p1_ HT_.out 45 50 spec_l18Ok.d46 ?_
   refine p1_ HT_.out 47 52 spec_l18Ok.d47 ?_
   refine p1_ HT_.out 48 53 spec_l18Ok.d48 ?_
   refine p1_ HT_.out 49 54 spec_l18Ok.d49 ?_
   refine take_ (i := 46) (N := some 51) (v := ?_) (a' := ?_) spec_l18Ok.d50 rfl rfl (take_ofW HT_.out HW_.out (by kernel_rfl)) (fun _ _ _ h => h) (Or.inl ⟨by rfl, ?_⟩) hHeld ?_ ?_
   rotate_left
   · rintro w' ⟨s0, s1, s2, s3, s4, s5, s6, s7, s8, s9, s10, s11, s12, s13, s14, s15, s16, s17, s18, s19, s20⟩
     go_simp
     with_reducible rfl
   rotate_left
   · simp only [Act.put, sA, sB, sC, i64_w, i32_w]
     rfl
   refine take_ (i := 50) (N := some 55) (v := ?_) (a' := ?_) spec_l18Ok.d51 rfl rfl (take_ofW HT_.out HW_.out (by kernel_rfl)) (fun _ _ _ h => h) (Or.inl ⟨by rfl, ?_⟩) hHeld ?_ ?_
   rotate_left
   · rintro w' ⟨s0, s1, s2, s3, s4, s5, s6, s7, s8, s9, s10, s11, s12, s13, s14, s15, s16, s17, s18, s19, s20⟩
     go_simp
     with_reducible rfl
   rotate_left
   · simp only [Act.put, sA, sB, sC, i64_w, i32_w]
     rfl
   refine p1_ HT_.out 51 56 spec_l18Ok.d52 ?_
   refine one_ (i := 52) (N := some 57) spec_l18Ok.d53 rfl rfl (one_of HT_.out (by kernel_rfl)) (by decide) (fun K hK => ?_)
   refine goes_ Try.func57 (by kernel_rfl) rfl #[.int .i64 ((rd_T31 l1 0).f2), .int .i64 0, .int .i64 (wrap64 (((rd_T29 l0 0).f1) - 1))] (by rfl) rfl rfl (by (try simp only [List.map_toArray, List.map_cons, List.map_nil]); first | done | rfl | (simp only [List.length_drop, List.length_take]; rfl)) ?_
   with_reducible refine (spec_l00In.calls ((rd_T31 l1 0).f2) 0 (wrap64 (((rd_T29 l0 0).f1) - 1)) t189 _ A12.out).mono ?_
   rintro e w' ⟨rfl, ⟨nd, rfl⟩⟩
   refine ⟨_, rfl, ?_⟩
   refine hK.out _ _ ⟨(bc_ HB.out hw179_0 :), (bc_ HB.out hw179_1 :), (bc_ HB.out hw179_2 :), (bc_ HB.out hw181_0 :), (bc_ HB.out hw181_1 :), (bc_ HB.out hw181_2 :), (bc_ HB.out hw183_0 :), (bc_ HB.out hw183_1 :), (bc_ HB.out hw183_2 :), (bc_ HB.out hw184_0 :), (bc_ HB.out hw184_1 :), (bc_ HB.out hw184_2 :), (bc_ HB.out hw185_0 :), (bc_ HB.out hw185_1 :), (bc_ HB.out hw185_2 :), (bc_ HB.out hw187_0 :), (bc_ HB.out hw187_1 :), (bc_ HB.out hw187_2 :), (bc_ HB.out hw188_0 :), (bc_ HB.out hw188_1 :), (bc_ HB.out hw188_2 :)⟩ (fun hHeld => ?_)
   clear hK K
   refine norm_ (a' := ?_) ?_ ?_
   rotate_left
   · show Act.put _ (some 57) _ = _
     simp only [Act.put, sA, sB, sC, i64_w, i32_w]
     rfl
   refine p1_ HT_.out 53 58 spec_l18Ok.d54 ?_
   refine p1_ HT_.out 54 4 spec_l18Ok.d55 ?_
   refine done_ (done_of HT_.out (by kernel_rfl)) ?_
   try go_wp2
   go_ret
   exact ⟨by first | rfl | (simp [errW_none, errW_some] <;> rfl) | (simp [*, errW_none, errW_some] <;> rfl), by repeat (first | (with_reducible first | exact HB.out | apply below_alloc | apply pw_below_drewN | apply below_drew1) | exact HB.out)⟩
 · rw [if_neg c9] at H
   have c9b0 : ((Int.tmod ((rd_T31 l1 0).f0) 2) == 0) = false := beq_eq_false_iff_ne.mpr c9
   have c9b1 : ((Int.tmod ((rd_T31 l1 0).f0) 2) != 0) = true := bne_iff_ne.mpr c9
   by_cases c17 : ((rd_T29 l0 0).f0) = ((rd_T29 l0 0).f1)
   rotate_left
   · rw [if_neg c17] at H
     have c17b0 : (((rd_T29 l0 0).f0) == ((rd_T29 l0 0).f1)) = false := beq_eq_false_iff_ne.mpr c17
     have c17b1 : (((rd_T29 l0 0).f0) != ((rd_T29 l0 0).f1)) = true := bne_iff_ne.mpr c17
     obtain rfl := Option.some.inj H
     go_enter Try.func53, Try.ntmps53
     try go_wp2
     have n0_ := mkA (below_drew1 HB.out)
     clear HB
     have HB := n0_
     clear n0_
     have p179 : 0 ≤ (0 : Int) := (by omega)
     have q179 : 0 < (l0.length : Int) := dt_
     obtain ⟨ad179, A179_2, c179_2, e179, hx179_0, hx179_1, hx179_2, hl179_2, hi179_2⟩ := at0_T29 HR0.out q179
     have hw179_2 := hx179_2
     have hw179_1 := hx179_1
     have hw179_0 := hx179_0
     cases e179
     have qi179 : (0 < l0.length) = True := eq_true (by omega)
     replace hx179_0 := bc_ HB.out hx179_0
     replace hx179_1 := bc_ HB.out hx179_1
     replace hx179_2 := bc_ HB.out hx179_2
     have HR179_2 := mkA hi179_2
     have HC179_2 := mkA hl179_2
     clear hi179_2 hl179_2
     replace p179 := eq_true p179
     replace q179 := eq_true q179
     have p181 : 0 ≤ (0 : Int) := (by omega)
     have q181 : 0 < (l1.length : Int) := dt_
     obtain ⟨ad181, e181, hx181_0, hx181_1, hx181_2⟩ := at0_T31 HR1.out q181
     have hw181_2 := hx181_2
     have hw181_1 := hx181_1
     have hw181_0 := hx181_0
     cases e181
     have qi181 : (0 < l1.length) = True := eq_true (by omega)
     replace hx181_0 := bc_ HB.out hx181_0
     replace hx181_1 := bc_ HB.out hx181_1
     replace hx181_2 := bc_ HB.out hx181_2
     replace p181 := eq_true p181
     replace q181 := eq_true q181
     have p183 : 0 ≤ (0 : Int) := (by omega)
     have q183 : 0 < (l1.length : Int) := dt_
     obtain ⟨ad183, e183, hx183_0, hx183_1, hx183_2⟩ := at0_T31 HR1.out q183
     have hw183_2 := hx183_2
     have hw183_1 := hx183_1
     have hw183_0 := hx183_0
     obtain rfl : ad181 = ad183 := (by injection e183)
     have qi183 : (0 < l1.length) = True := eq_true (by omega)
     replace hx183_0 := bc_ HB.out hx183_0
     replace hx183_1 := bc_ HB.out hx183_1
     replace hx183_2 := bc_ HB.out hx183_2
     replace p183 := eq_true p183
     replace q183 := eq_true q183
     have p190 : 0 ≤ (0 : Int) := (by omega)
     have q190 : 0 < (l0.length : Int) := dt_
     obtain ⟨ad190, A190_2, c190_2, e190, hx190_0, hx190_1, hx190_2, hl190_2, hi190_2⟩ := at0_T29 HR0.out q190
     have hw190_2 := hx190_2
     have hw190_1 := hx190_1
     have hw190_0 := hx190_0
     obtain rfl : ad179 = ad190 := (by injection e190)
     have qi190 : (0 < l0.length) = True := eq_true (by omega)
     replace hx190_0 := bc_ HB.out hx190_0
     replace hx190_1 := bc_ HB.out hx190_1
     replace hx190_2 := bc_ HB.out hx190_2
     have HR190_2 := mkA hi190_2
     have HC190_2 := mkA hl190_2
     clear hi190_2 hl190_2
     replace p190 := eq_true p190
     replace q190 := eq_true q190
     have p191 : 0 ≤ (0 : Int) := (by omega)
     have q191 : 0 < (l0.length : Int) := dt_
     obtain ⟨ad191, A191_2, c191_2, e191, hx191_0, hx191_1, hx191_2, hl191_2, hi191_2⟩ := at0_T29 HR0.out q191
     have hw191_2 := hx191_2
     have hw191_1 := hx191_1
     have hw191_0 := hx191_0
     obtain rfl : ad179 = ad191 := (by injection e191)
     have qi191 : (0 < l0.length) = True := eq_true (by omega)
     replace hx191_0 := bc_ HB.out hx191_0
     replace hx191_1 := bc_ HB.out hx191_1
     replace hx191_2 := bc_ HB.out hx191_2
     have HR191_2 := mkA hi191_2
     have HC191_2 := mkA hl191_2
     clear hi191_2 hl191_2
     replace p191 := eq_true p191
     replace q191 := eq_true q191
     have ea_ := Option.some.inj (hx190_2.symm.trans hx191_2)
     injection ea_ with ea_ en_ ec_
     subst ea_
     subst ec_
     clear en_
     refine start_ (n := 55) (S := fun w' => w'.cell? ad179 = some (.int .i64 ((rd_T29 l0 0).f0)) ∧ w'.cell? ⟨ad179.block, ad179.off + 1, none⟩ = some (.int .i64 ((rd_T29 l0 0).f1)) ∧ w'.cell? ⟨ad179.block, ad179.off + 2, none⟩ = some (.slice A179_2 ((rd_T29 l0 0).f2).length c179_2) ∧ w'.cell? ad181 = some (.int .i64 ((rd_T31 l1 0).f0)) ∧ w'.cell? ⟨ad181.block, ad181.off + 1, none⟩ = some (.int .i64 ((rd_T31 l1 0).f1)) ∧ w'.cell? ⟨ad181.block, ad181.off + 2, none⟩ = some (.int .i64 ((rd_T31 l1 0).f2)) ∧ w'.cell? ad181 = some (.int .i64 ((rd_T31 l1 0).f0)) ∧ w'.cell? ⟨ad181.block, ad181.off + 1, none⟩ = some (.int .i64 ((rd_T31 l1 0).f1)) ∧ w'.cell? ⟨ad181.block, ad181.off + 2, none⟩ = some (.int .i64 ((rd_T31 l1 0).f2)) ∧ w'.cell? ad179 = some (.int .i64 ((rd_T29 l0 0).f0)) ∧ w'.cell? ⟨ad179.block, ad179.off + 1, none⟩ = some (.int .i64 ((rd_T29 l0 0).f1)) ∧ w'.cell? ⟨ad179.block, ad179.off + 2, none⟩ = some (.slice A190_2 ((rd_T29 l0 0).f2).length c190_2) ∧ w'.cell? ad179 = some (.int .i64 ((rd_T29 l0 0).f0)) ∧ w'.cell? ⟨ad179.block, ad179.off + 1, none⟩ = some (.int .i64 ((rd_T29 l0 0).f1)) ∧ w'.cell? ⟨ad179.block, ad179.off + 2, none⟩ = some (.slice A190_2 ((rd_T29 l0 0).f2).length c190_2)) (ds := []) spec_l18Ok.d0 (by kernel_rfl) rfl rfl ⟨(bc_ HB.out hw179_0 :), (bc_ HB.out hw179_1 :), (bc_ HB.out hw179_2 :), (bc_ HB.out hw181_0 :), (bc_ HB.out hw181_1 :), (bc_ HB.out hw181_2 :), (bc_ HB.out hw183_0 :), (bc_ HB.out hw183_1 :), (bc_ HB.out hw183_2 :), (bc_ HB.out hw190_0 :), (bc_ HB.out hw190_1 :), (bc_ HB.out hw190_2 :), (bc_ HB.out hw191_0 :), (bc_ HB.out hw191_1 :), (bc_ HB.out hw191_2 :)⟩ (fun hHeld => ?_); refine with_tabW spec_l18Ok.tab1 spec_l18Ok.bits1 (fun HT_ HW_ => ?_)
     generalize w.drew = w25 at HB HR179_2 HR190_2 HR191_2 hx179_0 hx179_1 hx179_2 hx181_0 hx181_1 hx181_2 hx183_0 hx183_1 hx183_2 hx190_0 hx190_1 hx190_2 hx191_0 hx191_1 hx191_2 hHeld ⊢
     refine p1_ HT_.out 0 5 spec_l18Ok.d1 ?_
     refine p1_ HT_.out 1 6 spec_l18Ok.d2 ?_
     refine take_ (i := 2) (N := some 7) (v := ?_) (a' := ?_) spec_l18Ok.d3 rfl rfl (take_ofW HT_.out HW_.out (by kernel_rfl)) (fun _ _ _ h => h) (Or.inl ⟨by rfl, ?_⟩) hHeld ?_ ?_
     rotate_left
     · rintro w' ⟨s0, s1, s2, s3, s4, s5, s6, s7, s8, s9, s10, s11, s12, s13, s14⟩
       go_simp
       with_reducible rfl
     rotate_left
     · simp only [Act.put, sA, sB, sC, i64_w, i32_w]
       rfl
     refine one_ (i := 3) (N := some 8) spec_l18Ok.d4 rfl rfl (one_of HT_.out (by kernel_rfl)) (by decide) (fun K hK => ?_)
     refine goes_ Try.func77 (by kernel_rfl) rfl #[.agg #[.int .i64 ((rd_T29 l0 0).f0), .int .i64 ((rd_T29 l0 0).f1), .slice A179_2 ((rd_T29 l0 0).f2).length c179_2]] (by rfl) rfl rfl (by (try simp only [List.map_toArray, List.map_cons, List.map_nil]); first | done | rfl | (simp only [List.length_drop, List.length_take]; rfl)) ?_
     with_reducible refine (spec_ValidTiling.calls k ((rd_T29 l0 0).f0) ((rd_T29 l0 0).f1) _ _ ((rd_T29 l0 0).f2) true _ ?side1 ?side2 A4.out).mono ?_
     (case side1 => exact cb_ HR179_2.out HB.out)
     (case side2 => exact HC179_2.out)
     rintro e w26 ⟨rfl, hb⟩
     refine ⟨_, rfl, ?_⟩
     have n0_ := mkA (below_step (bs0_ HB.out) hb)
     clear HB
     have HB := n0_
     clear n0_
     (try clear hb)
     (try clear hb2)
     (try clear hk)
     (try clear hi)
     refine hK.out _ _ ⟨(bc_ HB.out hw179_0 :), (bc_ HB.out hw179_1 :), (bc_ HB.out hw179_2 :), (bc_ HB.out hw181_0 :), (bc_ HB.out hw181_1 :), (bc_ HB.out hw181_2 :), (bc_ HB.out hw183_0 :), (bc_ HB.out hw183_1 :), (bc_ HB.out hw183_2 :), (bc_ HB.out hw190_0 :), (bc_ HB.out hw190_1 :), (bc_ HB.out hw190_2 :), (bc_ HB.out hw191_0 :), (bc_ HB.out hw191_1 :), (bc_ HB.out hw191_2 :)⟩ (fun hHeld => ?_)
     clear hK K
     refine norm_ (a' := ?_) ?_ ?_
     rotate_left
     · show Act.put _ (some 8) _ = _
       simp only [Act.put, sA, sB, sC, i64_w, i32_w]
       rfl
     refine p1_ HT_.out 4 9 spec_l18Ok.d5 ?_
     refine p1_ HT_.out 5 10 spec_l18Ok.d6 ?_
     refine p1_ HT_.out 6 11 spec_l18Ok.d7 ?_
     refine p1_ HT_.out 7 12 spec_l18Ok.d8 ?_
     refine take_ (i := 8) (N := some 13) (v := ?_) (a' := ?_) spec_l18Ok.d9 rfl rfl (take_ofW HT_.out HW_.out (by kernel_rfl)) (fun _ _ _ h => h) (Or.inl ⟨by rfl, ?_⟩) hHeld ?_ ?_
     rotate_left
     · rintro w' ⟨s0, s1, s2, s3, s4, s5, s6, s7, s8, s9, s10, s11, s12, s13, s14⟩
       go_simp
       with_reducible rfl
     rotate_left
     · simp only [Act.put, sA, sB, sC, i64_w, i32_w]
       rfl
     refine one_ (i := 9) (N := some 14) spec_l18Ok.d10 rfl rfl (one_of HT_.out (by kernel_rfl)) (by decide) (fun K hK => ?_)
     refine goes_ Try.func83 (by kernel_rfl) rfl #[.int .i64 ((rd_T31 l1 0).f0)] (by rfl) rfl rfl (by (try simp only [List.map_toArray, List.map_cons, List.map_nil]); first | done | rfl | (simp only [List.length_drop, List.length_take]; rfl)) ?_
     with_reducible refine (spec_l02Turn.calls ((rd_T31 l1 0).f0) true _ A7.out).mono ?_
     rintro e w' ⟨rfl, ⟨nd, rfl⟩⟩
     refine ⟨_, rfl, ?_⟩
     refine hK.out _ _ ⟨(bc_ HB.out hw179_0 :), (bc_ HB.out hw179_1 :), (bc_ HB.out hw179_2 :), (bc_ HB.out hw181_0 :), (bc_ HB.out hw181_1 :), (bc_ HB.out hw181_2 :), (bc_ HB.out hw183_0 :), (bc_ HB.out hw183_1 :), (bc_ HB.out hw183_2 :), (bc_ HB.out hw190_0 :), (bc_ HB.out hw190_1 :), (bc_ HB.out hw190_2 :), (bc_ HB.out hw191_0 :), (bc_ HB.out hw191_1 :), (bc_ HB.out hw191_2 :)⟩ (fun hHeld => ?_)
     clear hK K
     refine norm_ (a' := ?_) ?_ ?_
     rotate_left
     · show Act.put _ (some 14) _ = _
       simp only [Act.put, sA, sB, sC, i64_w, i32_w]
       rfl
     refine p1_ HT_.out 10 15 spec_l18Ok.d11 ?_
     refine p1_ HT_.out 11 16 spec_l18Ok.d12 ?_
     refine p1_ HT_.out 12 17 spec_l18Ok.d13 ?_
     refine p1_ HT_.out 13 18 spec_l18Ok.d14 ?_
     refine p1_ HT_.out 14 19 spec_l18Ok.d15 ?_
     refine take_ (i := 15) (N := some 20) (v := ?_) (a' := ?_) spec_l18Ok.d16 rfl rfl (take_ofW HT_.out HW_.out (by kernel_rfl)) (fun _ _ _ h => h) (Or.inl ⟨by rfl, ?_⟩) hHeld ?_ ?_
     rotate_left
     · rintro w' ⟨s0, s1, s2, s3, s4, s5, s6, s7, s8, s9, s10, s11, s12, s13, s14⟩
       go_simp
       with_reducible rfl
     rotate_left
     · simp only [Act.put, sA, sB, sC, i64_w, i32_w]
       rfl
     refine p1_ HT_.out 16 21 spec_l18Ok.d17 ?_
     refine p1_ HT_.out 17 22 spec_l18Ok.d18 ?_
     refine p1_ HT_.out 18 23 spec_l18Ok.d19 ?_
     refine p1_ HT_.out 19 24 spec_l18Ok.d20 ?_
     refine p1_ HT_.out 20 25 spec_l18Ok.d21 ?_
     refine p1_ HT_.out 21 26 spec_l18Ok.d22 ?_
     refine p1_ HT_.out 23 28 spec_l18Ok.d59 ?_
     refine p1_ HT_.out 24 29 spec_l18Ok.d60 ?_
     refine p1_ HT_.out 25 30 spec_l18Ok.d61 ?_
     refine take_ (i := 22) (N := some 27) (v := ?_) (a' := ?_) spec_l18Ok.d26 rfl rfl (take_ofW HT_.out HW_.out (by kernel_rfl)) (fun _ _ _ h => h) (Or.inl ⟨by rfl, ?_⟩) hHeld ?_ ?_
     rotate_left
     · rintro w' ⟨s0, s1, s2, s3, s4, s5, s6, s7, s8, s9, s10, s11, s12, s13, s14⟩
       go_simp
       with_reducible rfl
     rotate_left
     · simp only [Act.put, sA, sB, sC, i64_w, i32_w]
       rfl
     refine take_ (i := 26) (N := some 31) (v := ?_) (a' := ?_) spec_l18Ok.d27 rfl rfl (take_ofW HT_.out HW_.out (by kernel_rfl)) (fun _ _ _ h => h) (Or.inl ⟨by rfl, ?_⟩) hHeld ?_ ?_
     rotate_left
     · rintro w' ⟨s0, s1, s2, s3, s4, s5, s6, s7, s8, s9, s10, s11, s12, s13, s14⟩
       go_simp
       with_reducible rfl
     rotate_left
     · simp only [Act.put, sA, sB, sC, i64_w, i32_w]
       rfl
     refine p1_ HT_.out 27 32 spec_l18Ok.d28 ?_
     refine p1_ HT_.out 28 33 spec_l18Ok.d29 ?_
     refine p1_ HT_.out 29 34 spec_l18Ok.d30 ?_
     refine p1_ HT_.out 30 35 spec_l18Ok.d31 ?_
     refine p0_ HT_.out 31 36 spec_l18Ok.d32 ?_
     refine p0_ HT_.out 32 37 spec_l18Ok.d33 ?_
     refine p0_ HT_.out 33 38 spec_l18Ok.d34 ?_
     refine p0_ HT_.out 34 39 spec_l18Ok.d62 ?_
     refine p0_ HT_.out 35 40 spec_l18Ok.d63 ?_
     refine p0_ HT_.out 36 41 spec_l18Ok.d64 ?_
     refine p0_ HT_.out 37 42 spec_l18Ok.d38 ?_
     refine p0_ HT_.out 38 43 spec_l18Ok.d39 ?_
     refine p0_ HT_.out 39 44 spec_l18Ok.d40 ?_
     refine p0_ HT_.out 40 45 spec_l18Ok.d41 ?_
     refine p1_ HT_.out 41 46 spec_l18Ok.d42 ?_
     refine p1_ HT_.out 42 47 spec_l18Ok.d43 ?_
     refine p0_ HT_.out 43 48 spec_l18Ok.d44 ?_
     refine p0_ HT_.out 44 49 spec_l18Ok.d45 ?_
     refine p0_ HT_.out 45 50 spec_l18Ok.d46 ?_
     refine p0_ HT_.out 46 51 spec_l18Ok.d56 ?_
     refine p0_ HT_.out 47 52 spec_l18Ok.d57 ?_
     refine p0_ HT_.out 48 53 spec_l18Ok.d58 ?_
     refine p0_ HT_.out 49 54 spec_l18Ok.d50 ?_
     refine p0_ HT_.out 50 55 spec_l18Ok.d51 ?_
     refine p0_ HT_.out 51 56 spec_l18Ok.d52 ?_
     refine p0_ HT_.out 52 57 spec_l18Ok.d53 ?_
     refine p1_ HT_.out 53 58 spec_l18Ok.d54 ?_
     refine p1_ HT_.out 54 4 spec_l18Ok.d55 ?_
     refine done_ (done_of HT_.out (by kernel_rfl)) ?_
     try go_wp2
     go_ret
     exact ⟨by first | rfl | (simp [errW_none, errW_some] <;> rfl) | (simp [*, errW_none, errW_some] <;> rfl), by repeat (first | (with_reducible first | exact HB.out | apply below_alloc | apply pw_below_drewN | apply below_drew1) | exact HB.out)⟩
   rw [if_pos c17] at H
   have c17b0 : (((rd_T29 l0 0).f0) == ((rd_T29 l0 0).f1)) = true := beq_iff_eq.mpr c17
   have c17b1 : (((rd_T29 l0 0).f0) != ((rd_T29 l0 0).f1)) = false := bne_eq_false_iff_eq.mpr c17
   clear c17
   replace H := Option.bind_eq_some_iff.mp H
   obtain ⟨t194, A180, H⟩ := H
   replace H : (if t194 = true then ((spec_l00In.f ((rd_T31 l1 0).f2) 0 (wrap64 (((rd_T29 l0 0).f1) - 1))).bind fun t197 => (some t197)) else (some false)) = some r := H
   have A18 := mkA A180
   clear A180
   by_cases c19 : t194 = true
   rotate_left
   · replace c19 := Bool.eq_false_iff.mpr c19
     subst c19
     have H1 : (some false) = some r := by rw [if_neg (show ¬ (false = true) by decide)] at H; exact H
     clear H
     have H := H1
     clear H1
     obtain rfl := Option.some.inj H
     go_enter Try.func53, Try.ntmps53
     try go_wp2
     have n0_ := mkA (below_drew1 HB.out)
     clear HB
     have HB := n0_
     clear n0_
     have p179 : 0 ≤ (0 : Int) := (by omega)
     have q179 : 0 < (l0.length : Int) := dt_
     obtain ⟨ad179, A179_2, c179_2, e179, hx179_0, hx179_1, hx179_2, hl179_2, hi179_2⟩ := at0_T29 HR0.out q179
     have hw179_2 := hx179_2
     have hw179_1 := hx179_1
     have hw179_0 := hx179_0
     cases e179
     have qi179 : (0 < l0.length) = True := eq_true (by omega)
     replace hx179_0 := bc_ HB.out hx179_0
     replace hx179_1 := bc_ HB.out hx179_1
     replace hx179_2 := bc_ HB.out hx179_2
     have HR179_2 := mkA hi179_2
     have HC179_2 := mkA hl179_2
     clear hi179_2 hl179_2
     replace p179 := eq_true p179
     replace q179 := eq_true q179
     have p181 : 0 ≤ (0 : Int) := (by omega)
     have q181 : 0 < (l1.length : Int) := dt_
     obtain ⟨ad181, e181, hx181_0, hx181_1, hx181_2⟩ := at0_T31 HR1.out q181
     have hw181_2 := hx181_2
     have hw181_1 := hx181_1
     have hw181_0 := hx181_0
     cases e181
     have qi181 : (0 < l1.length) = True := eq_true (by omega)
     replace hx181_0 := bc_ HB.out hx181_0
     replace hx181_1 := bc_ HB.out hx181_1
     replace hx181_2 := bc_ HB.out hx181_2
     replace p181 := eq_true p181
     replace q181 := eq_true q181
     have p183 : 0 ≤ (0 : Int) := (by omega)
     have q183 : 0 < (l1.length : Int) := dt_
     obtain ⟨ad183, e183, hx183_0, hx183_1, hx183_2⟩ := at0_T31 HR1.out q183
     have hw183_2 := hx183_2
     have hw183_1 := hx183_1
     have hw183_0 := hx183_0
     obtain rfl : ad181 = ad183 := (by injection e183)
     have qi183 : (0 < l1.length) = True := eq_true (by omega)
     replace hx183_0 := bc_ HB.out hx183_0
     replace hx183_1 := bc_ HB.out hx183_1
     replace hx183_2 := bc_ HB.out hx183_2
     replace p183 := eq_true p183
     replace q183 := eq_true q183
     have p190 : 0 ≤ (0 : Int) := (by omega)
     have q190 : 0 < (l0.length : Int) := dt_
     obtain ⟨ad190, A190_2, c190_2, e190, hx190_0, hx190_1, hx190_2, hl190_2, hi190_2⟩ := at0_T29 HR0.out q190
     have hw190_2 := hx190_2
     have hw190_1 := hx190_1
     have hw190_0 := hx190_0
     obtain rfl : ad179 = ad190 := (by injection e190)
     have qi190 : (0 < l0.length) = True := eq_true (by omega)
     replace hx190_0 := bc_ HB.out hx190_0
     replace hx190_1 := bc_ HB.out hx190_1
     replace hx190_2 := bc_ HB.out hx190_2
     have HR190_2 := mkA hi190_2
     have HC190_2 := mkA hl190_2
     clear hi190_2 hl190_2
     replace p190 := eq_true p190
     replace q190 := eq_true q190
     have p191 : 0 ≤ (0 : Int) := (by omega)
     have q191 : 0 < (l0.length : Int) := dt_
     obtain ⟨ad191, A191_2, c191_2, e191, hx191_0, hx191_1, hx191_2, hl191_2, hi191_2⟩ := at0_T29 HR0.out q191
     have hw191_2 := hx191_2
     have hw191_1 := hx191_1
     have hw191_0 := hx191_0
     obtain rfl : ad179 = ad191 := (by injection e191)
     have qi191 : (0 < l0.length) = True := eq_true (by omega)
     replace hx191_0 := bc_ HB.out hx191_0
     replace hx191_1 := bc_ HB.out hx191_1
     replace hx191_2 := bc_ HB.out hx191_2
     have HR191_2 := mkA hi191_2
     have HC191_2 := mkA hl191_2
     clear hi191_2 hl191_2
     replace p191 := eq_true p191
     replace q191 := eq_true q191
     have ea_ := Option.some.inj (hx190_2.symm.trans hx191_2)
     injection ea_ with ea_ en_ ec_
     subst ea_
     subst ec_
     clear en_
     have p192 : 0 ≤ (0 : Int) := (by omega)
     have q192 : 0 < (l1.length : Int) := dt_
     obtain ⟨ad192, e192, hx192_0, hx192_1, hx192_2⟩ := at0_T31 HR1.out q192
     have hw192_2 := hx192_2
     have hw192_1 := hx192_1
     have hw192_0 := hx192_0
     obtain rfl : ad181 = ad192 := (by injection e192)
     have qi192 : (0 < l1.length) = True := eq_true (by omega)
     replace hx192_0 := bc_ HB.out hx192_0
     replace hx192_1 := bc_ HB.out hx192_1
     replace hx192_2 := bc_ HB.out hx192_2
     replace p192 := eq_true p192
     replace q192 := eq_true q192
     have p193 : 0 ≤ (0 : Int) := (by omega)
     have q193 : 0 < (l0.length : Int) := dt_
     obtain ⟨ad193, A193_2, c193_2, e193, hx193_0, hx193_1, hx193_2, hl193_2, hi193_2⟩ := at0_T29 HR0.out q193
     have hw193_2 := hx193_2
     have hw193_1 := hx193_1
     have hw193_0 := hx193_0
     obtain rfl : ad179 = ad193 := (by injection e193)
     have qi193 : (0 < l0.length) = True := eq_true (by omega)
     replace hx193_0 := bc_ HB.out hx193_0
     replace hx193_1 := bc_ HB.out hx193_1
     replace hx193_2 := bc_ HB.out hx193_2
     have HR193_2 := mkA hi193_2
     have HC193_2 := mkA hl193_2
     clear hi193_2 hl193_2
     replace p193 := eq_true p193
     replace q193 := eq_true q193
     have ea_ := Option.some.inj (hx190_2.symm.trans hx193_2)
     injection ea_ with ea_ en_ ec_
     subst ea_
     subst ec_
     clear en_
     refine start_ (n := 55) (S := fun w' => w'.cell? ad179 = some (.int .i64 ((rd_T29 l0 0).f0)) ∧ w'.cell? ⟨ad179.block, ad179.off + 1, none⟩ = some (.int .i64 ((rd_T29 l0 0).f1)) ∧ w'.cell? ⟨ad179.block, ad179.off + 2, none⟩ = some (.slice A179_2 ((rd_T29 l0 0).f2).length c179_2) ∧ w'.cell? ad181 = some (.int .i64 ((rd_T31 l1 0).f0)) ∧ w'.cell? ⟨ad181.block, ad181.off + 1, none⟩ = some (.int .i64 ((rd_T31 l1 0).f1)) ∧ w'.cell? ⟨ad181.block, ad181.off + 2, none⟩ = some (.int .i64 ((rd_T31 l1 0).f2)) ∧ w'.cell? ad181 = some (.int .i64 ((rd_T31 l1 0).f0)) ∧ w'.cell? ⟨ad181.block, ad181.off + 1, none⟩ = some (.int .i64 ((rd_T31 l1 0).f1)) ∧ w'.cell? ⟨ad181.block, ad181.off + 2, none⟩ = some (.int .i64 ((rd_T31 l1 0).f2)) ∧ w'.cell? ad179 = some (.int .i64 ((rd_T29 l0 0).f0)) ∧ w'.cell? ⟨ad179.block, ad179.off + 1, none⟩ = some (.int .i64 ((rd_T29 l0 0).f1)) ∧ w'.cell? ⟨ad179.block, ad179.off + 2, none⟩ = some (.slice A190_2 ((rd_T29 l0 0).f2).length c190_2) ∧ w'.cell? ad179 = some (.int .i64 ((rd_T29 l0 0).f0)) ∧ w'.cell? ⟨ad179.block, ad179.off + 1, none⟩ = some (.int .i64 ((rd_T29 l0 0).f1)) ∧ w'.cell? ⟨ad179.block, ad179.off + 2, none⟩ = some (.slice A190_2 ((rd_T29 l0 0).f2).length c190_2) ∧ w'.cell? ad181 = some (.int .i64 ((rd_T31 l1 0).f0)) ∧ w'.cell? ⟨ad181.block, ad181.off + 1, none⟩ = some (.int .i64 ((rd_T31 l1 0).f1)) ∧ w'.cell? ⟨ad181.block, ad181.off + 2, none⟩ = some (.int .i64 ((rd_T31 l1 0).f2)) ∧ w'.cell? ad179 = some (.int .i64 ((rd_T29 l0 0).f0)) ∧ w'.cell? ⟨ad179.block, ad179.off + 1, none⟩ = some (.int .i64 ((rd_T29 l0 0).f1)) ∧ w'.cell? ⟨ad179.block, ad179.off + 2, none⟩ = some (.slice A190_2 ((rd_T29 l0 0).f2).length c190_2)) (ds := []) spec_l18Ok.d0 (by kernel_rfl) rfl rfl ⟨(bc_ HB.out hw179_0 :), (bc_ HB.out hw179_1 :), (bc_ HB.out hw179_2 :), (bc_ HB.out hw181_0 :), (bc_ HB.out hw181_1 :), (bc_ HB.out hw181_2 :), (bc_ HB.out hw183_0 :), (bc_ HB.out hw183_1 :), (bc_ HB.out hw183_2 :), (bc_ HB.out hw190_0 :), (bc_ HB.out hw190_1 :), (bc_ HB.out hw190_2 :), (bc_ HB.out hw191_0 :), (bc_ HB.out hw191_1 :), (bc_ HB.out hw191_2 :), (bc_ HB.out hw192_0 :), (bc_ HB.out hw192_1 :), (bc_ HB.out hw192_2 :), (bc_ HB.out hw193_0 :), (bc_ HB.out hw193_1 :), (bc_ HB.out hw193_2 :)⟩ (fun hHeld => ?_); refine with_tabW spec_l18Ok.tab1 spec_l18Ok.bits1 (fun HT_ HW_ => ?_)
     generalize w.drew = w23 at HB HR179_2 HR190_2 HR191_2 HR193_2 hx179_0 hx179_1 hx179_2 hx181_0 hx181_1 hx181_2 hx183_0 hx183_1 hx183_2 hx190_0 hx190_1 hx190_2 hx191_0 hx191_1 hx191_2 hx192_0 hx192_1 hx192_2 hx193_0 hx193_1 hx193_2 hHeld ⊢
     refine p1_ HT_.out 0 5 spec_l18Ok.d1 ?_
     refine p1_ HT_.out 1 6 spec_l18Ok.d2 ?_
     refine take_ (i := 2) (N := some 7) (v := ?_) (a' := ?_) spec_l18Ok.d3 rfl rfl (take_ofW HT_.out HW_.out (by kernel_rfl)) (fun _ _ _ h => h) (Or.inl ⟨by rfl, ?_⟩) hHeld ?_ ?_
     rotate_left
     · rintro w' ⟨s0, s1, s2, s3, s4, s5, s6, s7, s8, s9, s10, s11, s12, s13, s14, s15, s16, s17, s18, s19, s20⟩
       go_simp
       with_reducible rfl
     rotate_left
     · simp only [Act.put, sA, sB, sC, i64_w, i32_w]
       rfl
     refine one_ (i := 3) (N := some 8) spec_l18Ok.d4 rfl rfl (one_of HT_.out (by kernel_rfl)) (by decide) (fun K hK => ?_)
     refine goes_ Try.func77 (by kernel_rfl) rfl #[.agg #[.int .i64 ((rd_T29 l0 0).f0), .int .i64 ((rd_T29 l0 0).f1), .slice A179_2 ((rd_T29 l0 0).f2).length c179_2]] (by rfl) rfl rfl (by (try simp only [List.map_toArray, List.map_cons, List.map_nil]); first | done | rfl | (simp only [List.length_drop, List.length_take]; rfl)) ?_
     with_reducible refine (spec_ValidTiling.calls k ((rd_T29 l0 0).f0) ((rd_T29 l0 0).f1) _ _ ((rd_T29 l0 0).f2) true _ ?side1 ?side2 A4.out).mono ?_
     (case side1 => exact cb_ HR179_2.out HB.out)
     (case side2 => exact HC179_2.out)
     rintro e w24 ⟨rfl, hb⟩
     refine ⟨_, rfl, ?_⟩
     have n0_ := mkA (below_step (bs0_ HB.out) hb)
     clear HB
     have HB := n0_
     clear n0_
     (try clear hb)
     (try clear hb2)
     (try clear hk)
     (try clear hi)
     refine hK.out _ _ ⟨(bc_ HB.out hw179_0 :), (bc_ HB.out hw179_1 :), (bc_ HB.out hw179_2 :), (bc_ HB.out hw181_0 :), (bc_ HB.out hw181_1 :), (bc_ HB.out hw181_2 :), (bc_ HB.out hw183_0 :), (bc_ HB.out hw183_1 :), (bc_ HB.out hw183_2 :), (bc_ HB.out hw190_0 :), (bc_ HB.out hw190_1 :), (bc_ HB.out hw190_2 :), (bc_ HB.out hw191_0 :), (bc_ HB.out hw191_1 :), (bc_ HB.out hw191_2 :), (bc_ HB.out hw192_0 :), (bc_ HB.out hw192_1 :), (bc_ HB.out hw192_2 :), (bc_ HB.out hw193_0 :), (bc_ HB.out hw193_1 :), (bc_ HB.out hw193_2 :)⟩ (fun hHeld => ?_)
     clear hK K
     refine norm_ (a' := ?_) ?_ ?_
     rotate_left
     · show Act.put _ (some 8) _ = _
       simp only [Act.put, sA, sB, sC, i64_w, i32_w]
       rfl
     refine p1_ HT_.out 4 9 spec_l18Ok.d5 ?_
     refine p1_ HT_.out 5 10 spec_l18Ok.d6 ?_
     refine p1_ HT_.out 6 11 spec_l18Ok.d7 ?_
     refine p1_ HT_.out 7 12 spec_l18Ok.d8 ?_
     refine take_ (i := 8) (N := some 13) (v := ?_) (a' := ?_) spec_l18Ok.d9 rfl rfl (take_ofW HT_.out HW_.out (by kernel_rfl)) (fun _ _ _ h => h) (Or.inl ⟨by rfl, ?_⟩) hHeld ?_ ?_
     rotate_left
     · rintro w' ⟨s0, s1, s2, s3, s4, s5, s6, s7, s8, s9, s10, s11, s12, s13, s14, s15, s16, s17, s18, s19, s20⟩
       go_simp
       with_reducible rfl
     rotate_left
     · simp only [Act.put, sA, sB, sC, i64_w, i32_w]
       rfl
     refine one_ (i := 9) (N := some 14) spec_l18Ok.d10 rfl rfl (one_of HT_.out (by kernel_rfl)) (by decide) (fun K hK => ?_)
     refine goes_ Try.func83 (by kernel_rfl) rfl #[.int .i64 ((rd_T31 l1 0).f0)] (by rfl) rfl rfl (by (try simp only [List.map_toArray, List.map_cons, List.map_nil]); first | done | rfl | (simp only [List.length_drop, List.length_take]; rfl)) ?_
     with_reducible refine (spec_l02Turn.calls ((rd_T31 l1 0).f0) true _ A7.out).mono ?_
     rintro e w' ⟨rfl, ⟨nd, rfl⟩⟩
     refine ⟨_, rfl, ?_⟩
     refine hK.out _ _ ⟨(bc_ HB.out hw179_0 :), (bc_ HB.out hw179_1 :), (bc_ HB.out hw179_2 :), (bc_ HB.out hw181_0 :), (bc_ HB.out hw181_1 :), (bc_ HB.out hw181_2 :), (bc_ HB.out hw183_0 :), (bc_ HB.out hw183_1 :), (bc_ HB.out hw183_2 :), (bc_ HB.out hw190_0 :), (bc_ HB.out hw190_1 :), (bc_ HB.out hw190_2 :), (bc_ HB.out hw191_0 :), (bc_ HB.out hw191_1 :), (bc_ HB.out hw191_2 :), (bc_ HB.out hw192_0 :), (bc_ HB.out hw192_1 :), (bc_ HB.out hw192_2 :), (bc_ HB.out hw193_0 :), (bc_ HB.out hw193_1 :), (bc_ HB.out hw193_2 :)⟩ (fun hHeld => ?_)
     clear hK K
     refine norm_ (a' := ?_) ?_ ?_
     rotate_left
     · show Act.put _ (some 14) _ = _
       simp only [Act.put, sA, sB, sC, i64_w, i32_w]
       rfl
     refine p1_ HT_.out 10 15 spec_l18Ok.d11 ?_
     refine p1_ HT_.out 11 16 spec_l18Ok.d12 ?_
     refine p1_ HT_.out 12 17 spec_l18Ok.d13 ?_
     refine p1_ HT_.out 13 18 spec_l18Ok.d14 ?_
     refine p1_ HT_.out 14 19 spec_l18Ok.d15 ?_
     refine take_ (i := 15) (N := some 20) (v := ?_) (a' := ?_) spec_l18Ok.d16 rfl rfl (take_ofW HT_.out HW_.out (by kernel_rfl)) (fun _ _ _ h => h) (Or.inl ⟨by rfl, ?_⟩) hHeld ?_ ?_
     rotate_left
     · rintro w' ⟨s0, s1, s2, s3, s4, s5, s6, s7, s8, s9, s10, s11, s12, s13, s14, s15, s16, s17, s18, s19, s20⟩
       go_simp
       with_reducible rfl
     rotate_left
     · simp only [Act.put, sA, sB, sC, i64_w, i32_w]
       rfl
     refine p1_ HT_.out 16 21 spec_l18Ok.d17 ?_
     refine p1_ HT_.out 17 22 spec_l18Ok.d18 ?_
     refine p1_ HT_.out 18 23 spec_l18Ok.d19 ?_
     refine p1_ HT_.out 19 24 spec_l18Ok.d20 ?_
     refine p1_ HT_.out 20 25 spec_l18Ok.d21 ?_
     refine p1_ HT_.out 21 26 spec_l18Ok.d22 ?_
     refine p1_ HT_.out 23 28 spec_l18Ok.d59 ?_
     refine p1_ HT_.out 24 29 spec_l18Ok.d60 ?_
     refine p1_ HT_.out 25 30 spec_l18Ok.d61 ?_
     refine take_ (i := 22) (N := some 27) (v := ?_) (a' := ?_) spec_l18Ok.d26 rfl rfl (take_ofW HT_.out HW_.out (by kernel_rfl)) (fun _ _ _ h => h) (Or.inl ⟨by rfl, ?_⟩) hHeld ?_ ?_
     rotate_left
     · rintro w' ⟨s0, s1, s2, s3, s4, s5, s6, s7, s8, s9, s10, s11, s12, s13, s14, s15, s16, s17, s18, s19, s20⟩
       go_simp
       with_reducible rfl
     rotate_left
     · simp only [Act.put, sA, sB, sC, i64_w, i32_w]
       rfl
     refine take_ (i := 26) (N := some 31) (v := ?_) (a' := ?_) spec_l18Ok.d27 rfl rfl (take_ofW HT_.out HW_.out (by kernel_rfl)) (fun _ _ _ h => h) (Or.inl ⟨by rfl, ?_⟩) hHeld ?_ ?_
     rotate_left
     · rintro w' ⟨s0, s1, s2, s3, s4, s5, s6, s7, s8, s9, s10, s11, s12, s13, s14, s15, s16, s17, s18, s19, s20⟩
       go_simp
       with_reducible rfl
     rotate_left
     · simp only [Act.put, sA, sB, sC, i64_w, i32_w]
       rfl
     refine p1_ HT_.out 27 32 spec_l18Ok.d28 ?_
     refine p1_ HT_.out 28 33 spec_l18Ok.d29 ?_
     refine p1_ HT_.out 29 34 spec_l18Ok.d30 ?_
     refine p1_ HT_.out 30 35 spec_l18Ok.d31 ?_
     refine p1_ HT_.out 31 36 spec_l18Ok.d32 ?_
     refine p1_ HT_.out 32 37 spec_l18Ok.d33 ?_
     refine p1_ HT_.out 33 38 spec_l18Ok.d34 ?_
     refine p1_ HT_.out 35 40 spec_l18Ok.d35 ?_
     refine p1_ HT_.out 36 41 spec_l18Ok.d36 ?_
     refine p1_ HT_.out 37 42 spec_l18Ok.d37 ?_
     refine take_ (i := 34) (N := some 39) (v := ?_) (a' := ?_) spec_l18Ok.d38 rfl rfl (take_ofW HT_.out HW_.out (by kernel_rfl)) (fun _ _ _ h => h) (Or.inl ⟨by rfl, ?_⟩) hHeld ?_ ?_
     rotate_left
     · rintro w' ⟨s0, s1, s2, s3, s4, s5, s6, s7, s8, s9, s10, s11, s12, s13, s14, s15, s16, s17, s18, s19, s20⟩
       go_simp
       with_reducible rfl
     rotate_left
     · simp only [Act.put, sA, sB, sC, i64_w, i32_w]
       rfl
     refine take_ (i := 38) (N := some 43) (v := ?_) (a' := ?_) spec_l18Ok.d39 rfl rfl (take_ofW HT_.out HW_.out (by kernel_rfl)) (fun _ _ _ h => h) (Or.inl ⟨by rfl, ?_⟩) hHeld ?_ ?_
     rotate_left
     · rintro w' ⟨s0, s1, s2, s3, s4, s5, s6, s7, s8, s9, s10, s11, s12, s13, s14, s15, s16, s17, s18, s19, s20⟩
       go_simp
       with_reducible rfl
     rotate_left
     · simp only [Act.put, sA, sB, sC, i64_w, i32_w]
       rfl
     refine p1_ HT_.out 39 44 spec_l18Ok.d40 ?_
     refine one_ (i := 40) (N := some 45) spec_l18Ok.d41 rfl rfl (one_of HT_.out (by kernel_rfl)) (by decide) (fun K hK => ?_)
     refine goes_ Try.func57 (by kernel_rfl) rfl #[.int .i64 ((rd_T31 l1 0).f1), .int .i64 0, .int .i64 (wrap64 (((rd_T29 l0 0).f0) - 1))] (by rfl) rfl rfl (by (try simp only [List.map_toArray, List.map_cons, List.map_nil]); first | done | rfl | (simp only [List.length_drop, List.length_take]; rfl)) ?_
     with_reducible refine (spec_l00In.calls ((rd_T31 l1 0).f1) 0 (wrap64 (((rd_T29 l0 0).f0) - 1)) false _ A18.out).mono ?_
     rintro e w' ⟨rfl, ⟨nd, rfl⟩⟩
     refine ⟨_, rfl, ?_⟩
     refine hK.out _ _ ⟨(bc_ HB.out hw179_0 :), (bc_ HB.out hw179_1 :), (bc_ HB.out hw179_2 :), (bc_ HB.out hw181_0 :), (bc_ HB.out hw181_1 :), (bc_ HB.out hw181_2 :), (bc_ HB.out hw183_0 :), (bc_ HB.out hw183_1 :), (bc_ HB.out hw183_2 :), (bc_ HB.out hw190_0 :), (bc_ HB.out hw190_1 :), (bc_ HB.out hw190_2 :), (bc_ HB.out hw191_0 :), (bc_ HB.out hw191_1 :), (bc_ HB.out hw191_2 :), (bc_ HB.out hw192_0 :), (bc_ HB.out hw192_1 :), (bc_ HB.out hw192_2 :), (bc_ HB.out hw193_0 :), (bc_ HB.out hw193_1 :), (bc_ HB.out hw193_2 :)⟩ (fun hHeld => ?_)
     clear hK K
     refine norm_ (a' := ?_) ?_ ?_
     rotate_left
     · show Act.put _ (some 45) _ = _
       simp only [Act.put, sA, sB, sC, i64_w, i32_w]
       rfl
     refine p1_ HT_.out 41 46 spec_l18Ok.d42 ?_
     refine p1_ HT_.out 42 47 spec_l18Ok.d43 ?_
     refine p0_ HT_.out 43 48 spec_l18Ok.d44 ?_
     refine p0_ HT_.out 44 49 spec_l18Ok.d45 ?_
     refine p0_ HT_.out 45 50 spec_l18Ok.d46 ?_
     refine p0_ HT_.out 46 51 spec_l18Ok.d56 ?_
     refine p0_ HT_.out 47 52 spec_l18Ok.d57 ?_
     refine p0_ HT_.out 48 53 spec_l18Ok.d58 ?_
     refine p0_ HT_.out 49 54 spec_l18Ok.d50 ?_
     refine p0_ HT_.out 50 55 spec_l18Ok.d51 ?_
     refine p0_ HT_.out 51 56 spec_l18Ok.d52 ?_
     refine p0_ HT_.out 52 57 spec_l18Ok.d53 ?_
     refine p1_ HT_.out 53 58 spec_l18Ok.d54 ?_
     refine p1_ HT_.out 54 4 spec_l18Ok.d55 ?_
     refine done_ (done_of HT_.out (by kernel_rfl)) ?_
     try go_wp2
     go_ret
     exact ⟨by first | rfl | (simp [errW_none, errW_some] <;> rfl) | (simp [*, errW_none, errW_some] <;> rfl), by repeat (first | (with_reducible first | exact HB.out | apply below_alloc | apply pw_below_drewN | apply below_drew1) | exact HB.out)⟩
   subst c19
   have H1 : ((spec_l00In.f ((rd_T31 l1 0).f2) 0 (wrap64 (((rd_T29 l0 0).f1) - 1))).bind fun t197 => (some t197)) = some r := by rw [if_pos rfl] at H; exact H
   clear H
   have H := H1
   clear H1
   replace H := Option.bind_eq_some_iff.mp H
   obtain ⟨t197, A200, H⟩ := H
   replace H : (some t197) = some r := H
   have A20 := mkA A200
   clear A200
   obtain rfl := Option.some.inj H
   go_enter Try.func53, Try.ntmps53
   try go_wp2
   have n0_ := mkA (below_drew1 HB.out)
   clear HB
   have HB := n0_
   clear n0_
   have p179 : 0 ≤ (0 : Int) := (by omega)
   have q179 : 0 < (l0.length : Int) := dt_
   obtain ⟨ad179, A179_2, c179_2, e179, hx179_0, hx179_1, hx179_2, hl179_2, hi179_2⟩ := at0_T29 HR0.out q179
   have hw179_2 := hx179_2
   have hw179_1 := hx179_1
   have hw179_0 := hx179_0
   cases e179
   have qi179 : (0 < l0.length) = True := eq_true (by omega)
   replace hx179_0 := bc_ HB.out hx179_0
   replace hx179_1 := bc_ HB.out hx179_1
   replace hx179_2 := bc_ HB.out hx179_2
   have HR179_2 := mkA hi179_2
   have HC179_2 := mkA hl179_2
   clear hi179_2 hl179_2
   replace p179 := eq_true p179
   replace q179 := eq_true q179
   have p181 : 0 ≤ (0 : Int) := (by omega)
   have q181 : 0 < (l1.length : Int) := dt_
   obtain ⟨ad181, e181, hx181_0, hx181_1, hx181_2⟩ := at0_T31 HR1.out q181
   have hw181_2 := hx181_2
   have hw181_1 := hx181_1
   have hw181_0 := hx181_0
   cases e181
   have qi181 : (0 < l1.length) = True := eq_true (by omega)
   replace hx181_0 := bc_ HB.out hx181_0
   replace hx181_1 := bc_ HB.out hx181_1
   replace hx181_2 := bc_ HB.out hx181_2
   replace p181 := eq_true p181
   replace q181 := eq_true q181
   have p183 : 0 ≤ (0 : Int) := (by omega)
   have q183 : 0 < (l1.length : Int) := dt_
   obtain ⟨ad183, e183, hx183_0, hx183_1, hx183_2⟩ := at0_T31 HR1.out q183
   have hw183_2 := hx183_2
   have hw183_1 := hx183_1
   have hw183_0 := hx183_0
   obtain rfl : ad181 = ad183 := (by injection e183)
   have qi183 : (0 < l1.length) = True := eq_true (by omega)
   replace hx183_0 := bc_ HB.out hx183_0
   replace hx183_1 := bc_ HB.out hx183_1
   replace hx183_2 := bc_ HB.out hx183_2
   replace p183 := eq_true p183
   replace q183 := eq_true q183
   have p190 : 0 ≤ (0 : Int) := (by omega)
   have q190 : 0 < (l0.length : Int) := dt_
   obtain ⟨ad190, A190_2, c190_2, e190, hx190_0, hx190_1, hx190_2, hl190_2, hi190_2⟩ := at0_T29 HR0.out q190
   have hw190_2 := hx190_2
   have hw190_1 := hx190_1
   have hw190_0 := hx190_0
   obtain rfl : ad179 = ad190 := (by injection e190)
   have qi190 : (0 < l0.length) = True := eq_true (by omega)
   replace hx190_0 := bc_ HB.out hx190_0
   replace hx190_1 := bc_ HB.out hx190_1
   replace hx190_2 := bc_ HB.out hx190_2
   have HR190_2 := mkA hi190_2
   have HC190_2 := mkA hl190_2
   clear hi190_2 hl190_2
   replace p190 := eq_true p190
   replace q190 := eq_true q190
   have p191 : 0 ≤ (0 : Int) := (by omega)
   have q191 : 0 < (l0.length : Int) := dt_
   obtain ⟨ad191, A191_2, c191_2, e191, hx191_0, hx191_1, hx191_2, hl191_2, hi191_2⟩ := at0_T29 HR0.out q191
   have hw191_2 := hx191_2
   have hw191_1 := hx191_1
   have hw191_0 := hx191_0
   obtain rfl : ad179 = ad191 := (by injection e191)
   have qi191 : (0 < l0.length) = True := eq_true (by omega)
   replace hx191_0 := bc_ HB.out hx191_0
   replace hx191_1 := bc_ HB.out hx191_1
   replace hx191_2 := bc_ HB.out hx191_2
   have HR191_2 := mkA hi191_2
   have HC191_2 := mkA hl191_2
   clear hi191_2 hl191_2
   replace p191 := eq_true p191
   replace q191 := eq_true q191
   have ea_ := Option.some.inj (hx190_2.symm.trans hx191_2)
   injection ea_ with ea_ en_ ec_
   subst ea_
   subst ec_
   clear en_
   have p192 : 0 ≤ (0 : Int) := (by omega)
   have q192 : 0 < (l1.length : Int) := dt_
   obtain ⟨ad192, e192, hx192_0, hx192_1, hx192_2⟩ := at0_T31 HR1.out q192
   have hw192_2 := hx192_2
   have hw192_1 := hx192_1
   have hw192_0 := hx192_0
   obtain rfl : ad181 = ad192 := (by injection e192)
   have qi192 : (0 < l1.length) = True := eq_true (by omega)
   replace hx192_0 := bc_ HB.out hx192_0
   replace hx192_1 := bc_ HB.out hx192_1
   replace hx192_2 := bc_ HB.out hx192_2
   replace p192 := eq_true p192
   replace q192 := eq_true q192
   have p193 : 0 ≤ (0 : Int) := (by omega)
   have q193 : 0 < (l0.length : Int) := dt_
   obtain ⟨ad193, A193_2, c193_2, e193, hx193_0, hx193_1, hx193_2, hl193_2, hi193_2⟩ := at0_T29 HR0.out q193
   have hw193_2 := hx193_2
   have hw193_1 := hx193_1
   have hw193_0 := hx193_0
   obtain rfl : ad179 = ad193 := (by injection e193)
   have qi193 : (0 < l0.length) = True := eq_true (by omega)
   replace hx193_0 := bc_ HB.out hx193_0
   replace hx193_1 := bc_ HB.out hx193_1
   replace hx193_2 := bc_ HB.out hx193_2
   have HR193_2 := mkA hi193_2
   have HC193_2 := mkA hl193_2
   clear hi193_2 hl193_2
   replace p193 := eq_true p193
   replace q193 := eq_true q193
   have ea_ := Option.some.inj (hx190_2.symm.trans hx193_2)
   injection ea_ with ea_ en_ ec_
   subst ea_
   subst ec_
   clear en_
   have p195 : 0 ≤ (0 : Int) := (by omega)
   have q195 : 0 < (l1.length : Int) := dt_
   obtain ⟨ad195, e195, hx195_0, hx195_1, hx195_2⟩ := at0_T31 HR1.out q195
   have hw195_2 := hx195_2
   have hw195_1 := hx195_1
   have hw195_0 := hx195_0
   obtain rfl : ad181 = ad195 := (by injection e195)
   have qi195 : (0 < l1.length) = True := eq_true (by omega)
   replace hx195_0 := bc_ HB.out hx195_0
   replace hx195_1 := bc_ HB.out hx195_1
   replace hx195_2 := bc_ HB.out hx195_2
   replace p195 := eq_true p195
   replace q195 := eq_true q195
   have p196 : 0 ≤ (0 : Int) := (by omega)
   have q196 : 0 < (l0.length : Int) := dt_
   obtain ⟨ad196, A196_2, c196_2, e196, hx196_0, hx196_1, hx196_2, hl196_2, hi196_2⟩ := at0_T29 HR0.out q196
   have hw196_2 := hx196_2
   have hw196_1 := hx196_1
   have hw196_0 := hx196_0
   obtain rfl : ad179 = ad196 := (by injection e196)
   have qi196 : (0 < l0.length) = True := eq_true (by omega)
   replace hx196_0 := bc_ HB.out hx196_0
   replace hx196_1 := bc_ HB.out hx196_1
   replace hx196_2 := bc_ HB.out hx196_2
   have HR196_2 := mkA hi196_2
   have HC196_2 := mkA hl196_2
   clear hi196_2 hl196_2
   replace p196 := eq_true p196
   replace q196 := eq_true q196
   have ea_ := Option.some.inj (hx190_2.symm.trans hx196_2)
   injection ea_ with ea_ en_ ec_
   subst ea_
   subst ec_
   clear en_
   refine start_ (n := 55) (S := fun w' => w'.cell? ad179 = some (.int .i64 ((rd_T29 l0 0).f0)) ∧ w'.cell? ⟨ad179.block, ad179.off + 1, none⟩ = some (.int .i64 ((rd_T29 l0 0).f1)) ∧ w'.cell? ⟨ad179.block, ad179.off + 2, none⟩ = some (.slice A179_2 ((rd_T29 l0 0).f2).length c179_2) ∧ w'.cell? ad181 = some (.int .i64 ((rd_T31 l1 0).f0)) ∧ w'.cell? ⟨ad181.block, ad181.off + 1, none⟩ = some (.int .i64 ((rd_T31 l1 0).f1)) ∧ w'.cell? ⟨ad181.block, ad181.off + 2, none⟩ = some (.int .i64 ((rd_T31 l1 0).f2)) ∧ w'.cell? ad181 = some (.int .i64 ((rd_T31 l1 0).f0)) ∧ w'.cell? ⟨ad181.block, ad181.off + 1, none⟩ = some (.int .i64 ((rd_T31 l1 0).f1)) ∧ w'.cell? ⟨ad181.block, ad181.off + 2, none⟩ = some (.int .i64 ((rd_T31 l1 0).f2)) ∧ w'.cell? ad179 = some (.int .i64 ((rd_T29 l0 0).f0)) ∧ w'.cell? ⟨ad179.block, ad179.off + 1, none⟩ = some (.int .i64 ((rd_T29 l0 0).f1)) ∧ w'.cell? ⟨ad179.block, ad179.off + 2, none⟩ = some (.slice A190_2 ((rd_T29 l0 0).f2).length c190_2) ∧ w'.cell? ad179 = some (.int .i64 ((rd_T29 l0 0).f0)) ∧ w'.cell? ⟨ad179.block, ad179.off + 1, none⟩ = some (.int .i64 ((rd_T29 l0 0).f1)) ∧ w'.cell? ⟨ad179.block, ad179.off + 2, none⟩ = some (.slice A190_2 ((rd_T29 l0 0).f2).length c190_2) ∧ w'.cell? ad181 = some (.int .i64 ((rd_T31 l1 0).f0)) ∧ w'.cell? ⟨ad181.block, ad181.off + 1, none⟩ = some (.int .i64 ((rd_T31 l1 0).f1)) ∧ w'.cell? ⟨ad181.block, ad181.off + 2, none⟩ = some (.int .i64 ((rd_T31 l1 0).f2)) ∧ w'.cell? ad179 = some (.int .i64 ((rd_T29 l0 0).f0)) ∧ w'.cell? ⟨ad179.block, ad179.off + 1, none⟩ = some (.int .i64 ((rd_T29 l0 0).f1)) ∧ w'.cell? ⟨ad179.block, ad179.off + 2, none⟩ = some (.slice A190_2 ((rd_T29 l0 0).f2).length c190_2) ∧ w'.cell? ad181 = some (.int .i64 ((rd_T31 l1 0).f0)) ∧ w'.cell? ⟨ad181.block, ad181.off + 1, none⟩ = some (.int .i64 ((rd_T31 l1 0).f1)) ∧ w'.cell? ⟨ad181.block, ad181.off + 2, none⟩ = some (.int .i64 ((rd_T31 l1 0).f2)) ∧ w'.cell? ad179 = some (.int .i64 ((rd_T29 l0 0).f0)) ∧ w'.cell? ⟨ad179.block, ad179.off + 1, none⟩ = some (.int .i64 ((rd_T29 l0 0).f1)) ∧ w'.cell? ⟨ad179.block, ad179.off + 2, none⟩ = some (.slice A190_2 ((rd_T29 l0 0).f2).length c190_2)) (ds := []) spec_l18Ok.d0 (by kernel_rfl) rfl rfl ⟨(bc_ HB.out hw179_0 :), (bc_ HB.out hw179_1 :), (bc_ HB.out hw179_2 :), (bc_ HB.out hw181_0 :), (bc_ HB.out hw181_1 :), (bc_ HB.out hw181_2 :), (bc_ HB.out hw183_0 :), (bc_ HB.out hw183_1 :), (bc_ HB.out hw183_2 :), (bc_ HB.out hw190_0 :), (bc_ HB.out hw190_1 :), (bc_ HB.out hw190_2 :), (bc_ HB.out hw191_0 :), (bc_ HB.out hw191_1 :), (bc_ HB.out hw191_2 :), (bc_ HB.out hw192_0 :), (bc_ HB.out hw192_1 :), (bc_ HB.out hw192_2 :), (bc_ HB.out hw193_0 :), (bc_ HB.out hw193_1 :), (bc_ HB.out hw193_2 :), (bc_ HB.out hw195_0 :), (bc_ HB.out hw195_1 :), (bc_ HB.out hw195_2 :), (bc_ HB.out hw196_0 :), (bc_ HB.out hw196_1 :), (bc_ HB.out hw196_2 :)⟩ (fun hHeld => ?_); refine with_tabW spec_l18Ok.tab1 spec_l18Ok.bits1 (fun HT_ HW_ => ?_)
   generalize w.drew = w21 at HB HR179_2 HR190_2 HR191_2 HR193_2 HR196_2 hx179_0 hx179_1 hx179_2 hx181_0 hx181_1 hx181_2 hx183_0 hx183_1 hx183_2 hx190_0 hx190_1 hx190_2 hx191_0 hx191_1 hx191_2 hx192_0 hx192_1 hx192_2 hx193_0 hx193_1 hx193_2 hx195_0 hx195_1 hx195_2 hx196_0 hx196_1 hx196_2 hHeld ⊢
   refine p1_ HT_.out 0 5 spec_l18Ok.d1 ?_
   refine p1_ HT_.out 1 6 spec_l18Ok.d2 ?_
   refine take_ (i := 2) (N := some 7) (v := ?_) (a' := ?_) spec_l18Ok.d3 rfl rfl (take_ofW HT_.out HW_.out (by kernel_rfl)) (fun _ _ _ h => h) (Or.inl ⟨by rfl, ?_⟩) hHeld ?_ ?_
   rotate_left
   · rintro w' ⟨s0, s1, s2, s3, s4, s5, s6, s7, s8, s9, s10, s11, s12, s13, s14, s15, s16, s17, s18, s19, s20, s21, s22, s23, s24, s25, s26⟩
     go_simp
     with_reducible rfl
   rotate_left
   · simp only [Act.put, sA, sB, sC, i64_w, i32_w]
     rfl
   refine one_ (i := 3) (N := some 8) spec_l18Ok.d4 rfl rfl (one_of HT_.out (by kernel_rfl)) (by decide) (fun K hK => ?_)
   refine goes_ Try.func77 (by kernel_rfl) rfl #[.agg #[.int .i64 ((rd_T29 l0 0).f0), .int .i64 ((rd_T29 l0 0).f1), .slice A179_2 ((rd_T29 l0 0).f2).length c179_2]] (by rfl) rfl rfl (by (try simp only [List.map_toArray, List.map_cons, List.map_nil]); first | done | rfl | (simp only [List.length_drop, List.length_take]; rfl)) ?_
   with_reducible refine (spec_ValidTiling.calls k ((rd_T29 l0 0).f0) ((rd_T29 l0 0).f1) _ _ ((rd_T29 l0 0).f2) true _ ?side1 ?side2 A4.out).mono ?_
   (case side1 => exact cb_ HR179_2.out HB.out)
   (case side2 => exact HC179_2.out)
   rintro e w22 ⟨rfl, hb⟩
   refine ⟨_, rfl, ?_⟩
   have n0_ := mkA (below_step (bs0_ HB.out) hb)
   clear HB
   have HB := n0_
   clear n0_
   (try clear hb)
   (try clear hb2)
   (try clear hk)
   (try clear hi)
   refine hK.out _ _ ⟨(bc_ HB.out hw179_0 :), (bc_ HB.out hw179_1 :), (bc_ HB.out hw179_2 :), (bc_ HB.out hw181_0 :), (bc_ HB.out hw181_1 :), (bc_ HB.out hw181_2 :), (bc_ HB.out hw183_0 :), (bc_ HB.out hw183_1 :), (bc_ HB.out hw183_2 :), (bc_ HB.out hw190_0 :), (bc_ HB.out hw190_1 :), (bc_ HB.out hw190_2 :), (bc_ HB.out hw191_0 :), (bc_ HB.out hw191_1 :), (bc_ HB.out hw191_2 :), (bc_ HB.out hw192_0 :), (bc_ HB.out hw192_1 :), (bc_ HB.out hw192_2 :), (bc_ HB.out hw193_0 :), (bc_ HB.out hw193_1 :), (bc_ HB.out hw193_2 :), (bc_ HB.out hw195_0 :), (bc_ HB.out hw195_1 :), (bc_ HB.out hw195_2 :), (bc_ HB.out hw196_0 :), (bc_ HB.out hw196_1 :), (bc_ HB.out hw196_2 :)⟩ (fun hHeld => ?_)
   clear hK K
   refine norm_ (a' := ?_) ?_ ?_
   rotate_left
   · show Act.put _ (some 8) _ = _
     simp only [Act.put, sA, sB, sC, i64_w, i32_w]
     rfl
   refine p1_ HT_.out 4 9 spec_l18Ok.d5 ?_
   refine p1_ HT_.out 5 10 spec_l18Ok.d6 ?_
   refine p1_ HT_.out 6 11 spec_l18Ok.d7 ?_
   refine p1_ HT_.out 7 12 spec_l18Ok.d8 ?_
   refine take_ (i := 8) (N := some 13) (v := ?_) (a' := ?_) spec_l18Ok.d9 rfl rfl (take_ofW HT_.out HW_.out (by kernel_rfl)) (fun _ _ _ h => h) (Or.inl ⟨by rfl, ?_⟩) hHeld ?_ ?_
   rotate_left
   · rintro w' ⟨s0, s1, s2, s3, s4, s5, s6, s7, s8, s9, s10, s11, s12, s13, s14, s15, s16, s17, s18, s19, s20, s21, s22, s23, s24, s25, s26⟩
     go_simp
     with_reducible rfl
   rotate_left
   · simp only [Act.put, sA, sB, sC, i64_w, i32_w]
     rfl
   refine one_ (i := 9) (N := some 14) spec_l18Ok.d10 rfl rfl (one_of HT_.out (by kernel_rfl)) (by decide) (fun K hK => ?_)
   refine goes_ Try.func83 (by kernel_rfl) rfl #[.int .i64 ((rd_T31 l1 0).f0)] (by rfl) rfl rfl (by (try simp only [List.map_toArray, List.map_cons, List.map_nil]); first | done | rfl | (simp only [List.length_drop, List.length_take]; rfl)) ?_
   with_reducible refine (spec_l02Turn.calls ((rd_T31 l1 0).f0) true _ A7.out).mono ?_
   rintro e w' ⟨rfl, ⟨nd, rfl⟩⟩
   refine ⟨_, rfl, ?_⟩
   refine hK.out _ _ ⟨(bc_ HB.out hw179_0 :), (bc_ HB.out hw179_1 :), (bc_ HB.out hw179_2 :), (bc_ HB.out hw181_0 :), (bc_ HB.out hw181_1 :), (bc_ HB.out hw181_2 :), (bc_ HB.out hw183_0 :), (bc_ HB.out hw183_1 :), (bc_ HB.out hw183_2 :), (bc_ HB.out hw190_0 :), (bc_ HB.out hw190_1 :), (bc_ HB.out hw190_2 :), (bc_ HB.out hw191_0 :), (bc_ HB.out hw191_1 :), (bc_ HB.out hw191_2 :), (bc_ HB.out hw192_0 :), (bc_ HB.out hw192_1 :), (bc_ HB.out hw192_2 :), (bc_ HB.out hw193_0 :), (bc_ HB.out hw193_1 :), (bc_ HB.out hw193_2 :), (bc_ HB.out hw195_0 :), (bc_ HB.out hw195_1 :), (bc_ HB.out hw195_2 :), (bc_ HB.out hw196_0 :), (bc_ HB.out hw196_1 :), (bc_ HB.out hw196_2 :)⟩ (fun hHeld => ?_)
   clear hK K
   refine norm_ (a' := ?_) ?_ ?_
   rotate_left
   · show Act.put _ (some 14) _ = _
     simp only [Act.put, sA, sB, sC, i64_w, i32_w]
     rfl
   refine p1_ HT_.out 10 15 spec_l18Ok.d11 ?_
   refine p1_ HT_.out 11 16 spec_l18Ok.d12 ?_
   refine p1_ HT_.out 12 17 spec_l18Ok.d13 ?_
   refine p1_ HT_.out 13 18 spec_l18Ok.d14 ?_
   refine p1_ HT_.out 14 19 spec_l18Ok.d15 ?_
   refine take_ (i := 15) (N := some 20) (v := ?_) (a' := ?_) spec_l18Ok.d16 rfl rfl (take_ofW HT_.out HW_.out (by kernel_rfl)) (fun _ _ _ h => h) (Or.inl ⟨by rfl, ?_⟩) hHeld ?_ ?_
   rotate_left
   · rintro w' ⟨s0, s1, s2, s3, s4, s5, s6, s7, s8, s9, s10, s11, s12, s13, s14, s15, s16, s17, s18, s19, s20, s21, s22, s23, s24, s25, s26⟩
     go_simp
     with_reducible rfl
   rotate_left
   · simp only [Act.put, sA, sB, sC, i64_w, i32_w]
     rfl
   refine p1_ HT_.out 16 21 spec_l18Ok.d17 ?_
   refine p1_ HT_.out 17 22 spec_l18Ok.d18 ?_
   refine p1_ HT_.out 18 23 spec_l18Ok.d19 ?_
   refine p1_ HT_.out 19 24 spec_l18Ok.d20 ?_
   refine p1_ HT_.out 20 25 spec_l18Ok.d21 ?_
   refine p1_ HT_.out 21 26 spec_l18Ok.d22 ?_
   refine p1_ HT_.out 23 28 spec_l18Ok.d59 ?_
   refine p1_ HT_.out 24 29 spec_l18Ok.d60 ?_
   refine p1_ HT_.out 25 30 spec_l18Ok.d61 ?_
   refine take_ (i := 22) (N := some 27) (v := ?_) (a' := ?_) spec_l18Ok.d26 rfl rfl (take_ofW HT_.out HW_.out (by kernel_rfl)) (fun _ _ _ h => h) (Or.inl ⟨by rfl, ?_⟩) hHeld ?_ ?_
   rotate_left
   · rintro w' ⟨s0, s1, s2, s3, s4, s5, s6, s7, s8, s9, s10, s11, s12, s13, s14, s15, s16, s17, s18, s19, s20, s21, s22, s23, s24, s25, s26⟩
     go_simp
     with_reducible rfl
   rotate_left
   · simp only [Act.put, sA, sB, sC, i64_w, i32_w]
     rfl
   refine take_ (i := 26) (N := some 31) (v := ?_) (a' := ?_) spec_l18Ok.d27 rfl rfl (take_ofW HT_.out HW_.out (by kernel_rfl)) (fun _ _ _ h => h) (Or.inl ⟨by rfl, ?_⟩) hHeld ?_ ?_
   rotate_left
   · rintro w' ⟨s0, s1, s2, s3, s4, s5, s6, s7, s8, s9, s10, s11, s12, s13, s14, s15, s16, s17, s18, s19, s20, s21, s22, s23, s24, s25, s26⟩
     go_simp
     with_reducible rfl
   rotate_left
   · simp only [Act.put, sA, sB, sC, i64_w, i32_w]
     rfl
   refine p1_ HT_.out 27 32 spec_l18Ok.d28 ?_
   refine p1_ HT_.out 28 33 spec_l18Ok.d29 ?_
   refine p1_ HT_.out 29 34 spec_l18Ok.d30 ?_
   refine p1_ HT_.out 30 35 spec_l18Ok.d31 ?_
   refine p1_ HT_.out 31 36 spec_l18Ok.d32 ?_
   refine p1_ HT_.out 32 37 spec_l18Ok.d33 ?_
   refine p1_ HT_.out 33 38 spec_l18Ok.d34 ?_
   refine p1_ HT_.out 35 40 spec_l18Ok.d35 ?_
   refine p1_ HT_.out 36 41 spec_l18Ok.d36 ?_
   refine p1_ HT_.out 37 42 spec_l18Ok.d37 ?_
   refine take_ (i := 34) (N := some 39) (v := ?_) (a' := ?_) spec_l18Ok.d38 rfl rfl (take_ofW HT_.out HW_.out (by kernel_rfl)) (fun _ _ _ h => h) (Or.inl ⟨by rfl, ?_⟩) hHeld ?_ ?_
   rotate_left
   · rintro w' ⟨s0, s1, s2, s3, s4, s5, s6, s7, s8, s9, s10, s11, s12, s13, s14, s15, s16, s17, s18, s19, s20, s21, s22, s23, s24, s25, s26⟩
     go_simp
     with_reducible rfl
   rotate_left
   · simp only [Act.put, sA, sB, sC, i64_w, i32_w]
     rfl
   refine take_ (i := 38) (N := some 43) (v := ?_) (a' := ?_) spec_l18Ok.d39 rfl rfl (take_ofW HT_.out HW_.out (by kernel_rfl)) (fun _ _ _ h => h) (Or.inl ⟨by rfl, ?_⟩) hHeld ?_ ?_
   rotate_left
   · rintro w' ⟨s0, s1, s2, s3, s4, s5, s6, s7, s8, s9, s10, s11, s12, s13, s14, s15, s16, s17, s18, s19, s20, s21, s22, s23, s24, s25, s26⟩
     go_simp
     with_reducible rfl
   rotate_left
   · simp only [Act.put, sA, sB, sC, i64_w, i32_w]
     rfl
   refine p1_ HT_.out 39 44 spec_l18Ok.d40 ?_
   refine one_ (i := 40) (N := some 45) spec_l18Ok.d41 rfl rfl (one_of HT_.out (by kernel_rfl)) (by decide) (fun K hK => ?_)
   refine goes_ Try.func57 (by kernel_rfl) rfl #[.int .i64 ((rd_T31 l1 0).f1), .int .i64 0, .int .i64 (wrap64 (((rd_T29 l0 0).f0) - 1))] (by rfl) rfl rfl (by (try simp only [List.map_toArray, List.map_cons, List.map_nil]); first | done | rfl | (simp only [List.length_drop, List.length_take]; rfl)) ?_
   with_reducible refine (spec_l00In.calls ((rd_T31 l1 0).f1) 0 (wrap64 (((rd_T29 l0 0).f0) - 1)) true _ A18.out).mono ?_
   rintro e w' ⟨rfl, ⟨nd, rfl⟩⟩
   refine ⟨_, rfl, ?_⟩
   refine hK.out _ _ ⟨(bc_ HB.out hw179_0 :), (bc_ HB.out hw179_1 :), (bc_ HB.out hw179_2 :), (bc_ HB.out hw181_0 :), (bc_ HB.out hw181_1 :), (bc_ HB.out hw181_2 :), (bc_ HB.out hw183_0 :), (bc_ HB.out hw183_1 :), (bc_ HB.out hw183_2 :), (bc_ HB.out hw190_0 :), (bc_ HB.out hw190_1 :), (bc_ HB.out hw190_2 :), (bc_ HB.out hw191_0 :), (bc_ HB.out hw191_1 :), (bc_ HB.out hw191_2 :), (bc_ HB.out hw192_0 :), (bc_ HB.out hw192_1 :), (bc_ HB.out hw192_2 :), (bc_ HB.out hw193_0 :), (bc_ HB.out hw193_1 :), (bc_ HB.out hw193_2 :), (bc_ HB.out hw195_0 :), (bc_ HB.out hw195_1 :), (bc_ HB.out hw195_2 :), (bc_ HB.out hw196_0 :), (bc_ HB.out hw196_1 :), (bc_ HB.out hw196_2 :)⟩ (fun hHeld => ?_)
   clear hK K
   refine norm_ (a' := ?_) ?_ ?_
   rotate_left
   · show Act.put _ (some 45) _ = _
     simp only [Act.put, sA, sB, sC, i64_w, i32_w]
     rfl
   refine p1_ HT_.out 41 46 spec_l18Ok.d42 ?_
   refine p1_ HT_.out 42 47 spec_l18Ok.d43 ?_
   refine p1_ HT_.out 43 48 spec_l18Ok.d44 ?_
   refine p1_ HT_.out 44 49 spec_l18Ok.d45 ?_
   refine p1_ HT_.out 45 50 spec_l18Ok.d46 ?_
   refine p1_ HT_.out 47 52 spec_l18Ok.d47 ?_
   refine p1_ HT_.out 48 53 spec_l18Ok.d48 ?_
   refine p1_ HT_.out 49 54 spec_l18Ok.d49 ?_
   refine take_ (i := 46) (N := some 51) (v := ?_) (a' := ?_) spec_l18Ok.d50 rfl rfl (take_ofW HT_.out HW_.out (by kernel_rfl)) (fun _ _ _ h => h) (Or.inl ⟨by rfl, ?_⟩) hHeld ?_ ?_
   rotate_left
   · rintro w' ⟨s0, s1, s2, s3, s4, s5, s6, s7, s8, s9, s10, s11, s12, s13, s14, s15, s16, s17, s18, s19, s20, s21, s22, s23, s24, s25, s26⟩
     go_simp
     with_reducible rfl
   rotate_left
   · simp only [Act.put, sA, sB, sC, i64_w, i32_w]
     rfl
   refine take_ (i := 50) (N := some 55) (v := ?_) (a' := ?_) spec_l18Ok.d51 rfl rfl (take_ofW HT_.out HW_.out (by kernel_rfl)) (fun _ _ _ h => h) (Or.inl ⟨by rfl, ?_⟩) hHeld ?_ ?_
   rotate_left
   · rintro w' ⟨s0, s1, s2, s3, s4, s5, s6, s7, s8, s9, s10, s11, s12, s13, s14, s15, s16, s17, s18, s19, s20, s21, s22, s23, s24, s25, s26⟩
     go_simp
     with_reducible rfl
   rotate_left
   · simp only [Act.put, sA, sB, sC, i64_w, i32_w]
     rfl
   refine p1_ HT_.out 51 56 spec_l18Ok.d52 ?_
   refine one_ (i := 52) (N := some 57) spec_l18Ok.d53 rfl rfl (one_of HT_.out (by kernel_rfl)) (by decide) (fun K hK => ?_)
   refine goes_ Try.func57 (by kernel_rfl) rfl #[.int .i64 ((rd_T31 l1 0).f2), .int .i64 0, .int .i64 (wrap64 (((rd_T29 l0 0).f1) - 1))] (by rfl) rfl rfl (by (try simp only [List.map_toArray, List.map_cons, List.map_nil]); first | done | rfl | (simp only [List.length_drop, List.length_take]; rfl)) ?_
   with_reducible refine (spec_l00In.calls ((rd_T31 l1 0).f2) 0 (wrap64 (((rd_T29 l0 0).f1) - 1)) t197 _ A20.out).mono ?_
   rintro e w' ⟨rfl, ⟨nd, rfl⟩⟩
   refine ⟨_, rfl, ?_⟩
   refine hK.out _ _ ⟨(bc_ HB.out hw179_0 :), (bc_ HB.out hw179_1 :), (bc_ HB.out hw179_2 :), (bc_ HB.out hw181_0 :), (bc_ HB.out hw181_1 :), (bc_ HB.out hw181_2 :), (bc_ HB.out hw183_0 :), (bc_ HB.out hw183_1 :), (bc_ HB.out hw183_2 :), (bc_ HB.out hw190_0 :), (bc_ HB.out hw190_1 :), (bc_ HB.out hw190_2 :), (bc_ HB.out hw191_0 :), (bc_ HB.out hw191_1 :), (bc_ HB.out hw191_2 :), (bc_ HB.out hw192_0 :), (bc_ HB.out hw192_1 :), (bc_ HB.out hw192_2 :), (bc_ HB.out hw193_0 :), (bc_ HB.out hw193_1 :), (bc_ HB.out hw193_2 :), (bc_ HB.out hw195_0 :), (bc_ HB.out hw195_1 :), (bc_ HB.out hw195_2 :), (bc_ HB.out hw196_0 :), (bc_ HB.out hw196_1 :), (bc_ HB.out hw196_2 :)⟩ (fun hHeld => ?_)
   clear hK K
   refine norm_ (a' := ?_) ?_ ?_
   rotate_left
   · show Act.put _ (some 57) _ = _
     simp only [Act.put, sA, sB, sC, i64_w, i32_w]
     rfl
   refine p1_ HT_.out 53 58 spec_l18Ok.d54 ?_
   refine p1_ HT_.out 54 4 spec_l18Ok.d55 ?_
   refine done_ (done_of HT_.out (by kernel_rfl)) ?_
   try go_wp2
   go_ret
   exact ⟨by first | rfl | (simp [errW_none, errW_some] <;> rfl) | (simp [*, errW_none, errW_some] <;> rfl), by repeat (first | (with_reducible first | exact HB.out | apply below_alloc | apply pw_below_drewN | apply below_drew1) | exact HB.out)⟩
end Go.Proofs.Ytnidibnhojedoaa.GFnExactIsSymmetry
