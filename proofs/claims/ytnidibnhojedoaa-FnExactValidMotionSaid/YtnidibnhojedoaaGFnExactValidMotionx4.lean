-- Written by the session's own program (gen.py) out of the translation's print. Lean checks it.
import Derived.Test.YtnidibnhojedoaaGFnExactValidMotionx0
import Derived.Test.YtnidibnhojedoaaGFnExactValidMotionx1
import Derived.Test.YtnidibnhojedoaaGFnExactValidMotionx3
namespace Go.Proofs.Ytnidibnhojedoaa.GFnExactValidMotion
open Go.RowKit Go.Proofs.YtnidibnhojedoaaW.PrintWords Go.Proofs.YtnidibnhojedoaaW.PrintLast Go.Proofs.YtnidibnhojedoaaW.PrintMore
attribute [local go_sem] max2_int min2_int max_two min_two max_three min_three max_four min_four   -- for this text's walks alone
set_option linter.unusedVariables false
set_option linter.unusedSimpArgs false

/-! ### spec_l18Ok: function 53 -/
def spec_l18Ok.f (k : Nat) (l0 : List (S29)) (l1 : List (S31)) : Option (Bool) := if 0 < (l0.length : Int) then ((spec_ValidTiling.f k ((rd_T29 l0 0).f0) ((rd_T29 l0 0).f1) ((rd_T29 l0 0).f2)).bind fun t161 => (if t161 = true then (if 0 < (l1.length : Int) then ((spec_l02Turn.f ((rd_T31 l1 0).f0)).bind fun t163 => (if t163 = true then (if (Int.tmod ((rd_T31 l1 0).f0) 2) = 0 then ((spec_l00In.f ((rd_T31 l1 0).f1) 0 (wrap64 (((rd_T29 l0 0).f0) - 1))).bind fun t167 => (if t167 = true then ((spec_l00In.f ((rd_T31 l1 0).f2) 0 (wrap64 (((rd_T29 l0 0).f1) - 1))).bind fun t170 => (some t170)) else (some false))) else (if ((rd_T29 l0 0).f0) = ((rd_T29 l0 0).f1) then ((spec_l00In.f ((rd_T31 l1 0).f1) 0 (wrap64 (((rd_T29 l0 0).f0) - 1))).bind fun t175 => (if t175 = true then ((spec_l00In.f ((rd_T31 l1 0).f2) 0 (wrap64 (((rd_T29 l0 0).f1) - 1))).bind fun t178 => (some t178)) else (some false))) else (some false))) else (some false))) else (none)) else (some false))) else (none)
theorem spec_l18Ok.mono : ∀ a0 a1 k, LeO (spec_l18Ok.f k a0 a1) (spec_l18Ok.f (k + 1) a0 a1) := by
  intro a0 a1 k
  unfold spec_l18Ok.f
  repeat' first
      | (with_reducible exact spec_ValidTiling.mono _ _ _ _)
      | (with_reducible exact LeO.refl _)
      | (with_reducible exact LeO.none _)
      | (with_reducible refine LeO.ite ?_ ?_)
      | (with_reducible refine LeO.bind ?_ (fun _ => ?_))
      | exact spec_ValidTiling.mono _ _ _ _
      | exact LeO.none _
      | refine LeO.ite ?_ ?_
      | refine LeO.bind ?_ (fun _ => ?_)
def spec_l18Ok.T1 : Bool × List (List Nat × List Nat) := (true, [([], []), ([0], [0]), ([1], [1]), ([2], [2]), ([3, 3], [3]), ([4], [4]), ([5, 4], [4, 5]), ([6, 4], [4, 6]), ([7, 4], [4, 7]), ([8, 4, 4], [4, 8]), ([4, 9], [4, 9]), ([10, 9], [10]), ([11], [11]), ([12, 11], [11, 12]), ([13, 11], [11, 13]), ([14, 11], [11, 14]), ([15, 11], [11, 15]), ([16, 11], [11, 16]), ([17, 11, 11], [11, 17]), ([18], [18]), ([19, 18], [18, 19]), ([20, 18], [18, 20]), ([21, 18], [18, 21]), ([18], [18]), ([23, 18], [18, 23]), ([24, 18], [18, 24]), ([25, 18], [18, 25]), ([22, 26, 18], [18, 22, 26]), ([18, 27, 11], [11, 18, 27]), ([11, 28], [11, 28]), ([29, 18], [29]), ([30], [30]), ([31, 30], [30, 31]), ([32, 30], [30, 32]), ([33, 30], [30, 33]), ([30], [30]), ([35, 30], [30, 35]), ([36, 30], [30, 36]), ([37, 30], [30, 37]), ([38, 30], [30, 38]), ([34, 39, 30, 30], [30, 34, 39]), ([30, 40], [30, 40]), ([41, 40], [41]), ([42], [42]), ([43, 42], [42, 43]), ([44, 42], [42, 44]), ([45, 42], [42, 45]), ([42], [42]), ([47, 42], [42, 47]), ([48, 42], [42, 48]), ([49, 42], [42, 49]), ([50, 42], [42, 50]), ([46, 51, 42, 42], [42, 46, 51]), ([42, 52], [42, 52]), ([53, 52, 0, 1, 2, 3, 4, 5, 6, 7, 8, 9, 10, 11, 12, 13, 14, 15, 16, 17, 18, 19, 20, 21, 22, 23, 24, 25, 26, 27, 28, 29, 30, 31, 32, 33, 34, 35, 36, 37, 38, 39, 40, 41, 42, 43, 44, 45, 46, 47, 48, 49, 50, 51, 52, 53], [53])])
def spec_l18Ok.B1 : List Nat := [0, 1, 3, 7, 15, 31, 63, 127, 255, 511, 1023, 2047, 4095, 8191, 16383, 32767, 65535, 131071, 262143, 524287, 1048575, 2097151, 4194303, 524287, 8912895, 25690111, 59244543, 134217727, 268435455, 536870911, 1073741823, 2147483647, 4294967295, 8589934591, 17179869183, 2147483647, 36507222015, 105226698751, 242665652223, 517543559167, 1099511627775, 2199023255551, 4398046511103, 8796093022207, 17592186044415, 35184372088831, 70368744177663, 8796093022207, 149533581377535, 431008558088191, 993958511509503, 2119858418352127, 4503599627370495, 9007199254740991, 18014398509481983]
theorem spec_l18Ok.tab1 : rtab .any (opsOf Try.f53 1) = spec_l18Ok.T1 := by kernel_rfl
theorem spec_l18Ok.bits1 : waitsOk spec_l18Ok.T1.2 spec_l18Ok.B1 = true := by kernel_rfl
open List renaming setIfInBounds_toArray → sA, set_cons_zero → sB, set_cons_succ → sC
open Go.Proofs.YtnidibnhojedoaaW.PrintWords.Aside0 renaming mk → mkA
open Go.Proofs.YtnidibnhojedoaaX (bc_ p0_ p1_ bl_ cb_ bs0_ bs1_ bs2_ bs3_ bs4_ bs5_ bs6_ bs7_ bs8_ bs9_ bs10_ bs11_ bs12_)
abbrev spec_l18Ok.d0 : Array Bool := #[false, false, false, false, false, false, false, false, false, false, false, false, false, false, false, false, false, false, false, false, false, false, false, false, false, false, false, false, false, false, false, false, false, false, false, false, false, false, false, false, false, false, false, false, false, false, false, false, false, false, false, false, false, false, false]
abbrev spec_l18Ok.d1 : Array Bool := #[true, false, false, false, false, false, false, false, false, false, false, false, false, false, false, false, false, false, false, false, false, false, false, false, false, false, false, false, false, false, false, false, false, false, false, false, false, false, false, false, false, false, false, false, false, false, false, false, false, false, false, false, false, false, false]
abbrev spec_l18Ok.d2 : Array Bool := #[true, true, false, false, false, false, false, false, false, false, false, false, false, false, false, false, false, false, false, false, false, false, false, false, false, false, false, false, false, false, false, false, false, false, false, false, false, false, false, false, false, false, false, false, false, false, false, false, false, false, false, false, false, false, false]
abbrev spec_l18Ok.d3 : Array Bool := #[true, true, true, false, false, false, false, false, false, false, false, false, false, false, false, false, false, false, false, false, false, false, false, false, false, false, false, false, false, false, false, false, false, false, false, false, false, false, false, false, false, false, false, false, false, false, false, false, false, false, false, false, false, false, false]
abbrev spec_l18Ok.d4 : Array Bool := #[true, true, true, true, false, false, false, false, false, false, false, false, false, false, false, false, false, false, false, false, false, false, false, false, false, false, false, false, false, false, false, false, false, false, false, false, false, false, false, false, false, false, false, false, false, false, false, false, false, false, false, false, false, false, false]
abbrev spec_l18Ok.d5 : Array Bool := #[true, true, true, true, true, false, false, false, false, false, false, false, false, false, false, false, false, false, false, false, false, false, false, false, false, false, false, false, false, false, false, false, false, false, false, false, false, false, false, false, false, false, false, false, false, false, false, false, false, false, false, false, false, false, false]
abbrev spec_l18Ok.d6 : Array Bool := #[true, true, true, true, true, true, false, false, false, false, false, false, false, false, false, false, false, false, false, false, false, false, false, false, false, false, false, false, false, false, false, false, false, false, false, false, false, false, false, false, false, false, false, false, false, false, false, false, false, false, false, false, false, false, false]
abbrev spec_l18Ok.d7 : Array Bool := #[true, true, true, true, true, true, true, false, false, false, false, false, false, false, false, false, false, false, false, false, false, false, false, false, false, false, false, false, false, false, false, false, false, false, false, false, false, false, false, false, false, false, false, false, false, false, false, false, false, false, false, false, false, false, false]
abbrev spec_l18Ok.d8 : Array Bool := #[true, true, true, true, true, true, true, true, false, false, false, false, false, false, false, false, false, false, false, false, false, false, false, false, false, false, false, false, false, false, false, false, false, false, false, false, false, false, false, false, false, false, false, false, false, false, false, false, false, false, false, false, false, false, false]
abbrev spec_l18Ok.d9 : Array Bool := #[true, true, true, true, true, true, true, true, true, false, false, false, false, false, false, false, false, false, false, false, false, false, false, false, false, false, false, false, false, false, false, false, false, false, false, false, false, false, false, false, false, false, false, false, false, false, false, false, false, false, false, false, false, false, false]
abbrev spec_l18Ok.d10 : Array Bool := #[true, true, true, true, true, true, true, true, true, true, false, false, false, false, false, false, false, false, false, false, false, false, false, false, false, false, false, false, false, false, false, false, false, false, false, false, false, false, false, false, false, false, false, false, false, false, false, false, false, false, false, false, false, false, false]
abbrev spec_l18Ok.d11 : Array Bool := #[true, true, true, true, true, true, true, true, true, true, true, false, false, false, false, false, false, false, false, false, false, false, false, false, false, false, false, false, false, false, false, false, false, false, false, false, false, false, false, false, false, false, false, false, false, false, false, false, false, false, false, false, false, false, false]
abbrev spec_l18Ok.d12 : Array Bool := #[true, true, true, true, true, true, true, true, true, true, true, true, false, false, false, false, false, false, false, false, false, false, false, false, false, false, false, false, false, false, false, false, false, false, false, false, false, false, false, false, false, false, false, false, false, false, false, false, false, false, false, false, false, false, false]
abbrev spec_l18Ok.d13 : Array Bool := #[true, true, true, true, true, true, true, true, true, true, true, true, true, false, false, false, false, false, false, false, false, false, false, false, false, false, false, false, false, false, false, false, false, false, false, false, false, false, false, false, false, false, false, false, false, false, false, false, false, false, false, false, false, false, false]
abbrev spec_l18Ok.d14 : Array Bool := #[true, true, true, true, true, true, true, true, true, true, true, true, true, true, false, false, false, false, false, false, false, false, false, false, false, false, false, false, false, false, false, false, false, false, false, false, false, false, false, false, false, false, false, false, false, false, false, false, false, false, false, false, false, false, false]
abbrev spec_l18Ok.d15 : Array Bool := #[true, true, true, true, true, true, true, true, true, true, true, true, true, true, true, false, false, false, false, false, false, false, false, false, false, false, false, false, false, false, false, false, false, false, false, false, false, false, false, false, false, false, false, false, false, false, false, false, false, false, false, false, false, false, false]
abbrev spec_l18Ok.d16 : Array Bool := #[true, true, true, true, true, true, true, true, true, true, true, true, true, true, true, true, false, false, false, false, false, false, false, false, false, false, false, false, false, false, false, false, false, false, false, false, false, false, false, false, false, false, false, false, false, false, false, false, false, false, false, false, false, false, false]
abbrev spec_l18Ok.d17 : Array Bool := #[true, true, true, true, true, true, true, true, true, true, true, true, true, true, true, true, true, false, false, false, false, false, false, false, false, false, false, false, false, false, false, false, false, false, false, false, false, false, false, false, false, false, false, false, false, false, false, false, false, false, false, false, false, false, false]
abbrev spec_l18Ok.d18 : Array Bool := #[true, true, true, true, true, true, true, true, true, true, true, true, true, true, true, true, true, true, false, false, false, false, false, false, false, false, false, false, false, false, false, false, false, false, false, false, false, false, false, false, false, false, false, false, false, false, false, false, false, false, false, false, false, false, false]
abbrev spec_l18Ok.d19 : Array Bool := #[true, true, true, true, true, true, true, true, true, true, true, true, true, true, true, true, true, true, true, false, false, false, false, false, false, false, false, false, false, false, false, false, false, false, false, false, false, false, false, false, false, false, false, false, false, false, false, false, false, false, false, false, false, false, false]
abbrev spec_l18Ok.d20 : Array Bool := #[true, true, true, true, true, true, true, true, true, true, true, true, true, true, true, true, true, true, true, true, false, false, false, false, false, false, false, false, false, false, false, false, false, false, false, false, false, false, false, false, false, false, false, false, false, false, false, false, false, false, false, false, false, false, false]
abbrev spec_l18Ok.d21 : Array Bool := #[true, true, true, true, true, true, true, true, true, true, true, true, true, true, true, true, true, true, true, true, true, false, false, false, false, false, false, false, false, false, false, false, false, false, false, false, false, false, false, false, false, false, false, false, false, false, false, false, false, false, false, false, false, false, false]
abbrev spec_l18Ok.d22 : Array Bool := #[true, true, true, true, true, true, true, true, true, true, true, true, true, true, true, true, true, true, true, true, true, true, false, false, false, false, false, false, false, false, false, false, false, false, false, false, false, false, false, false, false, false, false, false, false, false, false, false, false, false, false, false, false, false, false]
abbrev spec_l18Ok.d23 : Array Bool := #[true, true, true, true, true, true, true, true, true, true, true, true, true, true, true, true, true, true, true, true, true, true, true, false, false, false, false, false, false, false, false, false, false, false, false, false, false, false, false, false, false, false, false, false, false, false, false, false, false, false, false, false, false, false, false]
abbrev spec_l18Ok.d24 : Array Bool := #[true, true, true, true, true, true, true, true, true, true, true, true, true, true, true, true, true, true, true, true, true, true, true, true, false, false, false, false, false, false, false, false, false, false, false, false, false, false, false, false, false, false, false, false, false, false, false, false, false, false, false, false, false, false, false]
abbrev spec_l18Ok.d25 : Array Bool := #[true, true, true, true, true, true, true, true, true, true, true, true, true, true, true, true, true, true, true, true, true, true, true, true, true, false, false, false, false, false, false, false, false, false, false, false, false, false, false, false, false, false, false, false, false, false, false, false, false, false, false, false, false, false, false]
abbrev spec_l18Ok.d26 : Array Bool := #[true, true, true, true, true, true, true, true, true, true, true, true, true, true, true, true, true, true, true, true, true, true, true, true, true, true, false, false, false, false, false, false, false, false, false, false, false, false, false, false, false, false, false, false, false, false, false, false, false, false, false, false, false, false, false]
abbrev spec_l18Ok.d27 : Array Bool := #[true, true, true, true, true, true, true, true, true, true, true, true, true, true, true, true, true, true, true, true, true, true, true, true, true, true, true, false, false, false, false, false, false, false, false, false, false, false, false, false, false, false, false, false, false, false, false, false, false, false, false, false, false, false, false]
abbrev spec_l18Ok.d28 : Array Bool := #[true, true, true, true, true, true, true, true, true, true, true, true, true, true, true, true, true, true, true, true, true, true, true, true, true, true, true, true, false, false, false, false, false, false, false, false, false, false, false, false, false, false, false, false, false, false, false, false, false, false, false, false, false, false, false]
abbrev spec_l18Ok.d29 : Array Bool := #[true, true, true, true, true, true, true, true, true, true, true, true, true, true, true, true, true, true, true, true, true, true, true, true, true, true, true, true, true, false, false, false, false, false, false, false, false, false, false, false, false, false, false, false, false, false, false, false, false, false, false, false, false, false, false]
abbrev spec_l18Ok.d30 : Array Bool := #[true, true, true, true, true, true, true, true, true, true, true, true, true, true, true, true, true, true, true, true, true, true, true, true, true, true, true, true, true, true, false, false, false, false, false, false, false, false, false, false, false, false, false, false, false, false, false, false, false, false, false, false, false, false, false]
abbrev spec_l18Ok.d31 : Array Bool := #[true, true, true, true, true, true, true, true, true, true, true, true, true, true, true, true, true, true, true, true, true, true, true, true, true, true, true, true, true, true, true, false, false, false, false, false, false, false, false, false, false, false, false, false, false, false, false, false, false, false, false, false, false, false, false]
abbrev spec_l18Ok.d32 : Array Bool := #[true, true, true, true, true, true, true, true, true, true, true, true, true, true, true, true, true, true, true, true, true, true, true, true, true, true, true, true, true, true, true, true, false, false, false, false, false, false, false, false, false, false, false, false, false, false, false, false, false, false, false, false, false, false, false]
abbrev spec_l18Ok.d33 : Array Bool := #[true, true, true, true, true, true, true, true, true, true, true, true, true, true, true, true, true, true, true, true, true, true, true, true, true, true, true, true, true, true, true, true, true, false, false, false, false, false, false, false, false, false, false, false, false, false, false, false, false, false, false, false, false, false, false]
abbrev spec_l18Ok.d34 : Array Bool := #[true, true, true, true, true, true, true, true, true, true, true, true, true, true, true, true, true, true, true, true, true, true, true, true, true, true, true, true, true, true, true, true, true, true, false, false, false, false, false, false, false, false, false, false, false, false, false, false, false, false, false, false, false, false, false]
abbrev spec_l18Ok.d35 : Array Bool := #[true, true, true, true, true, true, true, true, true, true, true, true, true, true, true, true, true, true, true, true, true, true, true, true, true, true, true, true, true, true, true, true, true, true, false, true, false, false, false, false, false, false, false, false, false, false, false, false, false, false, false, false, false, false, false]
abbrev spec_l18Ok.d36 : Array Bool := #[true, true, true, true, true, true, true, true, true, true, true, true, true, true, true, true, true, true, true, true, true, true, true, true, true, true, true, true, true, true, true, true, true, true, false, true, true, false, false, false, false, false, false, false, false, false, false, false, false, false, false, false, false, false, false]
abbrev spec_l18Ok.d37 : Array Bool := #[true, true, true, true, true, true, true, true, true, true, true, true, true, true, true, true, true, true, true, true, true, true, true, true, true, true, true, true, true, true, true, true, true, true, false, true, true, true, false, false, false, false, false, false, false, false, false, false, false, false, false, false, false, false, false]
abbrev spec_l18Ok.d38 : Array Bool := #[true, true, true, true, true, true, true, true, true, true, true, true, true, true, true, true, true, true, true, true, true, true, true, true, true, true, true, true, true, true, true, true, true, true, true, true, true, true, false, false, false, false, false, false, false, false, false, false, false, false, false, false, false, false, false]
abbrev spec_l18Ok.d39 : Array Bool := #[true, true, true, true, true, true, true, true, true, true, true, true, true, true, true, true, true, true, true, true, true, true, true, true, true, true, true, true, true, true, true, true, true, true, true, true, true, true, true, false, false, false, false, false, false, false, false, false, false, false, false, false, false, false, false]
abbrev spec_l18Ok.d40 : Array Bool := #[true, true, true, true, true, true, true, true, true, true, true, true, true, true, true, true, true, true, true, true, true, true, true, true, true, true, true, true, true, true, true, true, true, true, true, true, true, true, true, true, false, false, false, false, false, false, false, false, false, false, false, false, false, false, false]
abbrev spec_l18Ok.d41 : Array Bool := #[true, true, true, true, true, true, true, true, true, true, true, true, true, true, true, true, true, true, true, true, true, true, true, true, true, true, true, true, true, true, true, true, true, true, true, true, true, true, true, true, true, false, false, false, false, false, false, false, false, false, false, false, false, false, false]
abbrev spec_l18Ok.d42 : Array Bool := #[true, true, true, true, true, true, true, true, true, true, true, true, true, true, true, true, true, true, true, true, true, true, true, true, true, true, true, true, true, true, true, true, true, true, true, true, true, true, true, true, true, true, false, false, false, false, false, false, false, false, false, false, false, false, false]
abbrev spec_l18Ok.d43 : Array Bool := #[true, true, true, true, true, true, true, true, true, true, true, true, true, true, true, true, true, true, true, true, true, true, true, true, true, true, true, true, true, true, true, true, true, true, true, true, true, true, true, true, true, true, true, false, false, false, false, false, false, false, false, false, false, false, false]
abbrev spec_l18Ok.d44 : Array Bool := #[true, true, true, true, true, true, true, true, true, true, true, true, true, true, true, true, true, true, true, true, true, true, true, true, true, true, true, true, true, true, true, true, true, true, true, true, true, true, true, true, true, true, true, true, false, false, false, false, false, false, false, false, false, false, false]
abbrev spec_l18Ok.d45 : Array Bool := #[true, true, true, true, true, true, true, true, true, true, true, true, true, true, true, true, true, true, true, true, true, true, true, true, true, true, true, true, true, true, true, true, true, true, true, true, true, true, true, true, true, true, true, true, true, false, false, false, false, false, false, false, false, false, false]
abbrev spec_l18Ok.d46 : Array Bool := #[true, true, true, true, true, true, true, true, true, true, true, true, true, true, true, true, true, true, true, true, true, true, true, true, true, true, true, true, true, true, true, true, true, true, true, true, true, true, true, true, true, true, true, true, true, true, false, false, false, false, false, false, false, false, false]
abbrev spec_l18Ok.d47 : Array Bool := #[true, true, true, true, true, true, true, true, true, true, true, true, true, true, true, true, true, true, true, true, true, true, true, true, true, true, true, true, true, true, true, true, true, true, true, true, true, true, true, true, true, true, true, true, true, true, false, true, false, false, false, false, false, false, false]
abbrev spec_l18Ok.d48 : Array Bool := #[true, true, true, true, true, true, true, true, true, true, true, true, true, true, true, true, true, true, true, true, true, true, true, true, true, true, true, true, true, true, true, true, true, true, true, true, true, true, true, true, true, true, true, true, true, true, false, true, true, false, false, false, false, false, false]
abbrev spec_l18Ok.d49 : Array Bool := #[true, true, true, true, true, true, true, true, true, true, true, true, true, true, true, true, true, true, true, true, true, true, true, true, true, true, true, true, true, true, true, true, true, true, true, true, true, true, true, true, true, true, true, true, true, true, false, true, true, true, false, false, false, false, false]
abbrev spec_l18Ok.d50 : Array Bool := #[true, true, true, true, true, true, true, true, true, true, true, true, true, true, true, true, true, true, true, true, true, true, true, true, true, true, true, true, true, true, true, true, true, true, true, true, true, true, true, true, true, true, true, true, true, true, true, true, true, true, false, false, false, false, false]
abbrev spec_l18Ok.d51 : Array Bool := #[true, true, true, true, true, true, true, true, true, true, true, true, true, true, true, true, true, true, true, true, true, true, true, true, true, true, true, true, true, true, true, true, true, true, true, true, true, true, true, true, true, true, true, true, true, true, true, true, true, true, true, false, false, false, false]
abbrev spec_l18Ok.d52 : Array Bool := #[true, true, true, true, true, true, true, true, true, true, true, true, true, true, true, true, true, true, true, true, true, true, true, true, true, true, true, true, true, true, true, true, true, true, true, true, true, true, true, true, true, true, true, true, true, true, true, true, true, true, true, true, false, false, false]
abbrev spec_l18Ok.d53 : Array Bool := #[true, true, true, true, true, true, true, true, true, true, true, true, true, true, true, true, true, true, true, true, true, true, true, true, true, true, true, true, true, true, true, true, true, true, true, true, true, true, true, true, true, true, true, true, true, true, true, true, true, true, true, true, true, false, false]
abbrev spec_l18Ok.d54 : Array Bool := #[true, true, true, true, true, true, true, true, true, true, true, true, true, true, true, true, true, true, true, true, true, true, true, true, true, true, true, true, true, true, true, true, true, true, true, true, true, true, true, true, true, true, true, true, true, true, true, true, true, true, true, true, true, true, false]
abbrev spec_l18Ok.d55 : Array Bool := #[true, true, true, true, true, true, true, true, true, true, true, true, true, true, true, true, true, true, true, true, true, true, true, true, true, true, true, true, true, true, true, true, true, true, true, true, true, true, true, true, true, true, true, true, true, true, true, true, true, true, true, true, true, true, true]
abbrev spec_l18Ok.d56 : Array Bool := #[true, true, true, true, true, true, true, true, true, true, true, true, true, true, true, true, true, true, true, true, true, true, true, true, true, true, true, true, true, true, true, true, true, true, true, true, true, true, true, true, true, true, true, true, true, true, true, false, false, false, false, false, false, false, false]
abbrev spec_l18Ok.d57 : Array Bool := #[true, true, true, true, true, true, true, true, true, true, true, true, true, true, true, true, true, true, true, true, true, true, true, true, true, true, true, true, true, true, true, true, true, true, true, true, true, true, true, true, true, true, true, true, true, true, true, true, false, false, false, false, false, false, false]
abbrev spec_l18Ok.d58 : Array Bool := #[true, true, true, true, true, true, true, true, true, true, true, true, true, true, true, true, true, true, true, true, true, true, true, true, true, true, true, true, true, true, true, true, true, true, true, true, true, true, true, true, true, true, true, true, true, true, true, true, true, false, false, false, false, false, false]
abbrev spec_l18Ok.d59 : Array Bool := #[true, true, true, true, true, true, true, true, true, true, true, true, true, true, true, true, true, true, true, true, true, true, false, true, false, false, false, false, false, false, false, false, false, false, false, false, false, false, false, false, false, false, false, false, false, false, false, false, false, false, false, false, false, false, false]
abbrev spec_l18Ok.d60 : Array Bool := #[true, true, true, true, true, true, true, true, true, true, true, true, true, true, true, true, true, true, true, true, true, true, false, true, true, false, false, false, false, false, false, false, false, false, false, false, false, false, false, false, false, false, false, false, false, false, false, false, false, false, false, false, false, false, false]
abbrev spec_l18Ok.d61 : Array Bool := #[true, true, true, true, true, true, true, true, true, true, true, true, true, true, true, true, true, true, true, true, true, true, false, true, true, true, false, false, false, false, false, false, false, false, false, false, false, false, false, false, false, false, false, false, false, false, false, false, false, false, false, false, false, false, false]
abbrev spec_l18Ok.d62 : Array Bool := #[true, true, true, true, true, true, true, true, true, true, true, true, true, true, true, true, true, true, true, true, true, true, true, true, true, true, true, true, true, true, true, true, true, true, true, false, false, false, false, false, false, false, false, false, false, false, false, false, false, false, false, false, false, false, false]
abbrev spec_l18Ok.d63 : Array Bool := #[true, true, true, true, true, true, true, true, true, true, true, true, true, true, true, true, true, true, true, true, true, true, true, true, true, true, true, true, true, true, true, true, true, true, true, true, false, false, false, false, false, false, false, false, false, false, false, false, false, false, false, false, false, false, false]
abbrev spec_l18Ok.d64 : Array Bool := #[true, true, true, true, true, true, true, true, true, true, true, true, true, true, true, true, true, true, true, true, true, true, true, true, true, true, true, true, true, true, true, true, true, true, true, true, true, false, false, false, false, false, false, false, false, false, false, false, false, false, false, false, false, false, false]
set_option maxHeartbeats 8000000 in
set_option maxRecDepth 100000 in
theorem spec_l18Ok.calls (k : Nat) (A0 : Option Addr) (l0 : List (S29)) (A1 : Option Addr) (l1 : List (S31)) (r : Bool) (w : World) (hr0 : Kd.C k29 w A0 l0.length l0) (hr1 : Kd.C k31 w A1 l1.length l1) (h : spec_l18Ok.f k l0 l1 = some r) :
 Calls Try.prog 53 #[.pointer A0, .pointer A1] w fun e w' => e = .returned (.bool r) ∧ Below w.heap.size w w' := by
 have hu29 := Try.underlying29
 have HR0 := mkA hr0
 clear hr0
 have HR1 := mkA hr1
 clear hr1
 have HB := mkA (Below.refl w.heap.size w)
 have H : (if 0 < (l0.length : Int) then ((spec_ValidTiling.f k ((rd_T29 l0 0).f0) ((rd_T29 l0 0).f1) ((rd_T29 l0 0).f2)).bind fun t161 => (if t161 = true then (if 0 < (l1.length : Int) then ((spec_l02Turn.f ((rd_T31 l1 0).f0)).bind fun t163 => (if t163 = true then (if (Int.tmod ((rd_T31 l1 0).f0) 2) = 0 then ((spec_l00In.f ((rd_T31 l1 0).f1) 0 (wrap64 (((rd_T29 l0 0).f0) - 1))).bind fun t167 => (if t167 = true then ((spec_l00In.f ((rd_T31 l1 0).f2) 0 (wrap64 (((rd_T29 l0 0).f1) - 1))).bind fun t170 => (some t170)) else (some false))) else (if ((rd_T29 l0 0).f0) = ((rd_T29 l0 0).f1) then ((spec_l00In.f ((rd_T31 l1 0).f1) 0 (wrap64 (((rd_T29 l0 0).f0) - 1))).bind fun t175 => (if t175 = true then ((spec_l00In.f ((rd_T31 l1 0).f2) 0 (wrap64 (((rd_T29 l0 0).f1) - 1))).bind fun t178 => (some t178)) else (some false))) else (some false))) else (some false))) else (none)) else (some false))) else (none)) = some r := h
 clear h
 by_cases c3 : 0 < (l0.length : Int)
 · rw [if_pos c3] at H
   have c3b0 : decide (0 < (l0.length : Int)) = true := decide_eq_true c3
   have c3b1 : decide (0 < l0.length) = true := decide_eq_true (by omega)
   clear c3
   replace H := Option.bind_eq_some_iff.mp H
   obtain ⟨t161, A40, H⟩ := H
   replace H : (if t161 = true then (if 0 < (l1.length : Int) then ((spec_l02Turn.f ((rd_T31 l1 0).f0)).bind fun t163 => (if t163 = true then (if (Int.tmod ((rd_T31 l1 0).f0) 2) = 0 then ((spec_l00In.f ((rd_T31 l1 0).f1) 0 (wrap64 (((rd_T29 l0 0).f0) - 1))).bind fun t167 => (if t167 = true then ((spec_l00In.f ((rd_T31 l1 0).f2) 0 (wrap64 (((rd_T29 l0 0).f1) - 1))).bind fun t170 => (some t170)) else (some false))) else (if ((rd_T29 l0 0).f0) = ((rd_T29 l0 0).f1) then ((spec_l00In.f ((rd_T31 l1 0).f1) 0 (wrap64 (((rd_T29 l0 0).f0) - 1))).bind fun t175 => (if t175 = true then ((spec_l00In.f ((rd_T31 l1 0).f2) 0 (wrap64 (((rd_T29 l0 0).f1) - 1))).bind fun t178 => (some t178)) else (some false))) else (some false))) else (some false))) else (none)) else (some false)) = some r := H
   have A4 := mkA A40
   clear A40
   by_cases c5 : t161 = true
   · subst c5
     have H1 : (if 0 < (l1.length : Int) then ((spec_l02Turn.f ((rd_T31 l1 0).f0)).bind fun t163 => (if t163 = true then (if (Int.tmod ((rd_T31 l1 0).f0) 2) = 0 then ((spec_l00In.f ((rd_T31 l1 0).f1) 0 (wrap64 (((rd_T29 l0 0).f0) - 1))).bind fun t167 => (if t167 = true then ((spec_l00In.f ((rd_T31 l1 0).f2) 0 (wrap64 (((rd_T29 l0 0).f1) - 1))).bind fun t170 => (some t170)) else (some false))) else (if ((rd_T29 l0 0).f0) = ((rd_T29 l0 0).f1) then ((spec_l00In.f ((rd_T31 l1 0).f1) 0 (wrap64 (((rd_T29 l0 0).f0) - 1))).bind fun t175 => (if t175 = true then ((spec_l00In.f ((rd_T31 l1 0).f2) 0 (wrap64 (((rd_T29 l0 0).f1) - 1))).bind fun t178 => (some t178)) else (some false))) else (some false))) else (some false))) else (none)) = some r := by rw [if_pos rfl] at H; exact H
     clear H
     have H := H1
     clear H1
     by_cases c6 : 0 < (l1.length : Int)
     · rw [if_pos c6] at H
       have c6b0 : decide (0 < (l1.length : Int)) = true := decide_eq_true c6
       have c6b1 : decide (0 < l1.length) = true := decide_eq_true (by omega)
       clear c6
       replace H := Option.bind_eq_some_iff.mp H
       obtain ⟨t163, A70, H⟩ := H
       replace H : (if t163 = true then (if (Int.tmod ((rd_T31 l1 0).f0) 2) = 0 then ((spec_l00In.f ((rd_T31 l1 0).f1) 0 (wrap64 (((rd_T29 l0 0).f0) - 1))).bind fun t167 => (if t167 = true then ((spec_l00In.f ((rd_T31 l1 0).f2) 0 (wrap64 (((rd_T29 l0 0).f1) - 1))).bind fun t170 => (some t170)) else (some false))) else (if ((rd_T29 l0 0).f0) = ((rd_T29 l0 0).f1) then ((spec_l00In.f ((rd_T31 l1 0).f1) 0 (wrap64 (((rd_T29 l0 0).f0) - 1))).bind fun t175 => (if t175 = true then ((spec_l00In.f ((rd_T31 l1 0).f2) 0 (wrap64 (((rd_T29 l0 0).f1) - 1))).bind fun t178 => (some t178)) else (some false))) else (some false))) else (some false)) = some r := H
       have A7 := mkA A70
       clear A70
       by_cases c8 : t163 = true
       · subst c8
         have H1 : (if (Int.tmod ((rd_T31 l1 0).f0) 2) = 0 then ((spec_l00In.f ((rd_T31 l1 0).f1) 0 (wrap64 (((rd_T29 l0 0).f0) - 1))).bind fun t167 => (if t167 = true then ((spec_l00In.f ((rd_T31 l1 0).f2) 0 (wrap64 (((rd_T29 l0 0).f1) - 1))).bind fun t170 => (some t170)) else (some false))) else (if ((rd_T29 l0 0).f0) = ((rd_T29 l0 0).f1) then ((spec_l00In.f ((rd_T31 l1 0).f1) 0 (wrap64 (((rd_T29 l0 0).f0) - 1))).bind fun t175 => (if t175 = true then ((spec_l00In.f ((rd_T31 l1 0).f2) 0 (wrap64 (((rd_T29 l0 0).f1) - 1))).bind fun t178 => (some t178)) else (some false))) else (some false))) = some r := by rw [if_pos rfl] at H; exact H
         clear H
         have H := H1
         clear H1
         by_cases c9 : (Int.tmod ((rd_T31 l1 0).f0) 2) = 0
         · rw [if_pos c9] at H
           have c9b0 : ((Int.tmod ((rd_T31 l1 0).f0) 2) == 0) = true := beq_iff_eq.mpr c9
           have c9b1 : ((Int.tmod ((rd_T31 l1 0).f0) 2) != 0) = false := bne_eq_false_iff_eq.mpr c9
           clear c9
           replace H := Option.bind_eq_some_iff.mp H
           obtain ⟨t167, A100, H⟩ := H
           replace H : (if t167 = true then ((spec_l00In.f ((rd_T31 l1 0).f2) 0 (wrap64 (((rd_T29 l0 0).f1) - 1))).bind fun t170 => (some t170)) else (some false)) = some r := H
           have A10 := mkA A100
           clear A100
           by_cases c11 : t167 = true
           · subst c11
             have H1 : ((spec_l00In.f ((rd_T31 l1 0).f2) 0 (wrap64 (((rd_T29 l0 0).f1) - 1))).bind fun t170 => (some t170)) = some r := by rw [if_pos rfl] at H; exact H
             clear H
             have H := H1
             clear H1
             replace H := Option.bind_eq_some_iff.mp H
             obtain ⟨t170, A120, H⟩ := H
             replace H : (some t170) = some r := H
             have A12 := mkA A120
             clear A120
             obtain rfl := Option.some.inj H
             go_enter Try.func53, Try.ntmps53
             try go_wp2
             have n0_ := mkA (below_drew1 HB.out)
             clear HB
             have HB := n0_
             clear n0_
             have p160 : 0 ≤ (0 : Int) := (by omega)
             have q160 : 0 < (l0.length : Int) := of_decide_eq_true (by first | (with_reducible assumption) | assumption)
             obtain ⟨ad160, A160_2, c160_2, e160, hx160_0, hx160_1, hx160_2, hl160_2, hi160_2⟩ := at_T29 HR0.out 0 p160 q160
             have hw160_2 := hx160_2
             (try simp only [show ((0 : Int)).toNat = 0 from rfl, show 0 * 3 = 0 from rfl, Addr.add_zero'] at hw160_2)
             have hw160_1 := hx160_1
             (try simp only [show ((0 : Int)).toNat = 0 from rfl, show 0 * 3 = 0 from rfl, Addr.add_zero'] at hw160_1)
             have hw160_0 := hx160_0
             (try simp only [show ((0 : Int)).toNat = 0 from rfl, show 0 * 3 = 0 from rfl, Addr.add_zero'] at hw160_0)
             cases e160
             (simp only [Go.Proofs.YtnidibnhojedoaaX.rp_add] at hx160_0)
             (simp only [Go.Proofs.YtnidibnhojedoaaX.rp_add] at hx160_1)
             (simp only [Go.Proofs.YtnidibnhojedoaaX.rp_add] at hx160_2)
             have qi160 : (0 < l0.length) = True := eq_true (by omega)
             (try simp only [show ((0 : Int)).toNat = 0 from rfl, show 0 * 3 = 0 from rfl, Addr.add_zero'] at hx160_0 hx160_1 hx160_2)
             replace hx160_0 := bc_ HB.out hx160_0
             replace hx160_1 := bc_ HB.out hx160_1
             replace hx160_2 := bc_ HB.out hx160_2
             have HR160_2 := mkA hi160_2
             have HC160_2 := mkA hl160_2
             clear hi160_2 hl160_2
             replace p160 := eq_true p160
             replace q160 := eq_true q160
             have p162 : 0 ≤ (0 : Int) := (by omega)
             have q162 : 0 < (l1.length : Int) := of_decide_eq_true (by first | (with_reducible assumption) | assumption)
             obtain ⟨ad162, e162, hx162_0, hx162_1, hx162_2⟩ := at_T31 HR1.out 0 p162 q162
             have hw162_2 := hx162_2
             (try simp only [show ((0 : Int)).toNat = 0 from rfl, show 0 * 3 = 0 from rfl, Addr.add_zero'] at hw162_2)
             have hw162_1 := hx162_1
             (try simp only [show ((0 : Int)).toNat = 0 from rfl, show 0 * 3 = 0 from rfl, Addr.add_zero'] at hw162_1)
             have hw162_0 := hx162_0
             (try simp only [show ((0 : Int)).toNat = 0 from rfl, show 0 * 3 = 0 from rfl, Addr.add_zero'] at hw162_0)
             cases e162
             (simp only [Go.Proofs.YtnidibnhojedoaaX.rp_add] at hx162_0)
             (simp only [Go.Proofs.YtnidibnhojedoaaX.rp_add] at hx162_1)
             (simp only [Go.Proofs.YtnidibnhojedoaaX.rp_add] at hx162_2)
             have qi162 : (0 < l1.length) = True := eq_true (by omega)
             (try simp only [show ((0 : Int)).toNat = 0 from rfl, show 0 * 3 = 0 from rfl, Addr.add_zero'] at hx162_0 hx162_1 hx162_2)
             replace hx162_0 := bc_ HB.out hx162_0
             replace hx162_1 := bc_ HB.out hx162_1
             replace hx162_2 := bc_ HB.out hx162_2
             replace p162 := eq_true p162
             replace q162 := eq_true q162
             have p164 : 0 ≤ (0 : Int) := (by omega)
             have q164 : 0 < (l1.length : Int) := of_decide_eq_true (by first | (with_reducible assumption) | assumption)
             obtain ⟨ad164, e164, hx164_0, hx164_1, hx164_2⟩ := at_T31 HR1.out 0 p164 q164
             have hw164_2 := hx164_2
             (try simp only [show ((0 : Int)).toNat = 0 from rfl, show 0 * 3 = 0 from rfl, Addr.add_zero'] at hw164_2)
             have hw164_1 := hx164_1
             (try simp only [show ((0 : Int)).toNat = 0 from rfl, show 0 * 3 = 0 from rfl, Addr.add_zero'] at hw164_1)
             have hw164_0 := hx164_0
             (try simp only [show ((0 : Int)).toNat = 0 from rfl, show 0 * 3 = 0 from rfl, Addr.add_zero'] at hw164_0)
             obtain rfl : ad162 = ad164 := (by injection e164)
             (simp only [Go.Proofs.YtnidibnhojedoaaX.rp_add] at hx164_0)
             (simp only [Go.Proofs.YtnidibnhojedoaaX.rp_add] at hx164_1)
             (simp only [Go.Proofs.YtnidibnhojedoaaX.rp_add] at hx164_2)
             have qi164 : (0 < l1.length) = True := eq_true (by omega)
             (try simp only [show ((0 : Int)).toNat = 0 from rfl, show 0 * 3 = 0 from rfl, Addr.add_zero'] at hx164_0 hx164_1 hx164_2)
             replace hx164_0 := bc_ HB.out hx164_0
             replace hx164_1 := bc_ HB.out hx164_1
             replace hx164_2 := bc_ HB.out hx164_2
             replace p164 := eq_true p164
             replace q164 := eq_true q164
             have p165 : 0 ≤ (0 : Int) := (by omega)
             have q165 : 0 < (l1.length : Int) := of_decide_eq_true (by first | (with_reducible assumption) | assumption)
             obtain ⟨ad165, e165, hx165_0, hx165_1, hx165_2⟩ := at_T31 HR1.out 0 p165 q165
             have hw165_2 := hx165_2
             (try simp only [show ((0 : Int)).toNat = 0 from rfl, show 0 * 3 = 0 from rfl, Addr.add_zero'] at hw165_2)
             have hw165_1 := hx165_1
             (try simp only [show ((0 : Int)).toNat = 0 from rfl, show 0 * 3 = 0 from rfl, Addr.add_zero'] at hw165_1)
             have hw165_0 := hx165_0
             (try simp only [show ((0 : Int)).toNat = 0 from rfl, show 0 * 3 = 0 from rfl, Addr.add_zero'] at hw165_0)
             obtain rfl : ad162 = ad165 := (by injection e165)
             (simp only [Go.Proofs.YtnidibnhojedoaaX.rp_add] at hx165_0)
             (simp only [Go.Proofs.YtnidibnhojedoaaX.rp_add] at hx165_1)
             (simp only [Go.Proofs.YtnidibnhojedoaaX.rp_add] at hx165_2)
             have qi165 : (0 < l1.length) = True := eq_true (by omega)
             (try simp only [show ((0 : Int)).toNat = 0 from rfl, show 0 * 3 = 0 from rfl, Addr.add_zero'] at hx165_0 hx165_1 hx165_2)
             replace hx165_0 := bc_ HB.out hx165_0
             replace hx165_1 := bc_ HB.out hx165_1
             replace hx165_2 := bc_ HB.out hx165_2
             replace p165 := eq_true p165
             replace q165 := eq_true q165
             have p166 : 0 ≤ (0 : Int) := (by omega)
             have q166 : 0 < (l0.length : Int) := of_decide_eq_true (by first | (with_reducible assumption) | assumption)
             obtain ⟨ad166, A166_2, c166_2, e166, hx166_0, hx166_1, hx166_2, hl166_2, hi166_2⟩ := at_T29 HR0.out 0 p166 q166
             have hw166_2 := hx166_2
             (try simp only [show ((0 : Int)).toNat = 0 from rfl, show 0 * 3 = 0 from rfl, Addr.add_zero'] at hw166_2)
             have hw166_1 := hx166_1
             (try simp only [show ((0 : Int)).toNat = 0 from rfl, show 0 * 3 = 0 from rfl, Addr.add_zero'] at hw166_1)
             have hw166_0 := hx166_0
             (try simp only [show ((0 : Int)).toNat = 0 from rfl, show 0 * 3 = 0 from rfl, Addr.add_zero'] at hw166_0)
             obtain rfl : ad160 = ad166 := (by injection e166)
             (simp only [Go.Proofs.YtnidibnhojedoaaX.rp_add] at hx166_0)
             (simp only [Go.Proofs.YtnidibnhojedoaaX.rp_add] at hx166_1)
             (simp only [Go.Proofs.YtnidibnhojedoaaX.rp_add] at hx166_2)
             have qi166 : (0 < l0.length) = True := eq_true (by omega)
             (try simp only [show ((0 : Int)).toNat = 0 from rfl, show 0 * 3 = 0 from rfl, Addr.add_zero'] at hx166_0 hx166_1 hx166_2)
             replace hx166_0 := bc_ HB.out hx166_0
             replace hx166_1 := bc_ HB.out hx166_1
             replace hx166_2 := bc_ HB.out hx166_2
             have HR166_2 := mkA hi166_2
             have HC166_2 := mkA hl166_2
             clear hi166_2 hl166_2
             replace p166 := eq_true p166
             replace q166 := eq_true q166
             have p168 : 0 ≤ (0 : Int) := (by omega)
             have q168 : 0 < (l1.length : Int) := of_decide_eq_true (by first | (with_reducible assumption) | assumption)
             obtain ⟨ad168, e168, hx168_0, hx168_1, hx168_2⟩ := at_T31 HR1.out 0 p168 q168
             have hw168_2 := hx168_2
             (try simp only [show ((0 : Int)).toNat = 0 from rfl, show 0 * 3 = 0 from rfl, Addr.add_zero'] at hw168_2)
             have hw168_1 := hx168_1
             (try simp only [show ((0 : Int)).toNat = 0 from rfl, show 0 * 3 = 0 from rfl, Addr.add_zero'] at hw168_1)
             have hw168_0 := hx168_0
             (try simp only [show ((0 : Int)).toNat = 0 from rfl, show 0 * 3 = 0 from rfl, Addr.add_zero'] at hw168_0)
             obtain rfl : ad162 = ad168 := (by injection e168)
             (simp only [Go.Proofs.YtnidibnhojedoaaX.rp_add] at hx168_0)
             (simp only [Go.Proofs.YtnidibnhojedoaaX.rp_add] at hx168_1)
             (simp only [Go.Proofs.YtnidibnhojedoaaX.rp_add] at hx168_2)
             have qi168 : (0 < l1.length) = True := eq_true (by omega)
             (try simp only [show ((0 : Int)).toNat = 0 from rfl, show 0 * 3 = 0 from rfl, Addr.add_zero'] at hx168_0 hx168_1 hx168_2)
             replace hx168_0 := bc_ HB.out hx168_0
             replace hx168_1 := bc_ HB.out hx168_1
             replace hx168_2 := bc_ HB.out hx168_2
             replace p168 := eq_true p168
             replace q168 := eq_true q168
             have p169 : 0 ≤ (0 : Int) := (by omega)
             have q169 : 0 < (l0.length : Int) := of_decide_eq_true (by first | (with_reducible assumption) | assumption)
             obtain ⟨ad169, A169_2, c169_2, e169, hx169_0, hx169_1, hx169_2, hl169_2, hi169_2⟩ := at_T29 HR0.out 0 p169 q169
             have hw169_2 := hx169_2
             (try simp only [show ((0 : Int)).toNat = 0 from rfl, show 0 * 3 = 0 from rfl, Addr.add_zero'] at hw169_2)
             have hw169_1 := hx169_1
             (try simp only [show ((0 : Int)).toNat = 0 from rfl, show 0 * 3 = 0 from rfl, Addr.add_zero'] at hw169_1)
             have hw169_0 := hx169_0
             (try simp only [show ((0 : Int)).toNat = 0 from rfl, show 0 * 3 = 0 from rfl, Addr.add_zero'] at hw169_0)
             obtain rfl : ad160 = ad169 := (by injection e169)
             (simp only [Go.Proofs.YtnidibnhojedoaaX.rp_add] at hx169_0)
             (simp only [Go.Proofs.YtnidibnhojedoaaX.rp_add] at hx169_1)
             (simp only [Go.Proofs.YtnidibnhojedoaaX.rp_add] at hx169_2)
             have qi169 : (0 < l0.length) = True := eq_true (by omega)
             (try simp only [show ((0 : Int)).toNat = 0 from rfl, show 0 * 3 = 0 from rfl, Addr.add_zero'] at hx169_0 hx169_1 hx169_2)
             replace hx169_0 := bc_ HB.out hx169_0
             replace hx169_1 := bc_ HB.out hx169_1
             replace hx169_2 := bc_ HB.out hx169_2
             have HR169_2 := mkA hi169_2
             have HC169_2 := mkA hl169_2
             clear hi169_2 hl169_2
             replace p169 := eq_true p169
             replace q169 := eq_true q169
             have ea_ := Option.some.inj (hx166_2.symm.trans hx169_2)
             injection ea_ with ea_ en_ ec_
             subst ea_
             subst ec_
             clear en_
             refine start_ (n := 55) (S := fun w' => w'.cell? ad160 = some (.int .i64 ((rd_T29 l0 0).f0)) ∧ w'.cell? ⟨ad160.block, ad160.off + 1, none⟩ = some (.int .i64 ((rd_T29 l0 0).f1)) ∧ w'.cell? ⟨ad160.block, ad160.off + 2, none⟩ = some (.slice A160_2 ((rd_T29 l0 0).f2).length c160_2) ∧ w'.cell? ad162 = some (.int .i64 ((rd_T31 l1 0).f0)) ∧ w'.cell? ⟨ad162.block, ad162.off + 1, none⟩ = some (.int .i64 ((rd_T31 l1 0).f1)) ∧ w'.cell? ⟨ad162.block, ad162.off + 2, none⟩ = some (.int .i64 ((rd_T31 l1 0).f2)) ∧ w'.cell? ad162 = some (.int .i64 ((rd_T31 l1 0).f0)) ∧ w'.cell? ⟨ad162.block, ad162.off + 1, none⟩ = some (.int .i64 ((rd_T31 l1 0).f1)) ∧ w'.cell? ⟨ad162.block, ad162.off + 2, none⟩ = some (.int .i64 ((rd_T31 l1 0).f2)) ∧ w'.cell? ad162 = some (.int .i64 ((rd_T31 l1 0).f0)) ∧ w'.cell? ⟨ad162.block, ad162.off + 1, none⟩ = some (.int .i64 ((rd_T31 l1 0).f1)) ∧ w'.cell? ⟨ad162.block, ad162.off + 2, none⟩ = some (.int .i64 ((rd_T31 l1 0).f2)) ∧ w'.cell? ad160 = some (.int .i64 ((rd_T29 l0 0).f0)) ∧ w'.cell? ⟨ad160.block, ad160.off + 1, none⟩ = some (.int .i64 ((rd_T29 l0 0).f1)) ∧ w'.cell? ⟨ad160.block, ad160.off + 2, none⟩ = some (.slice A166_2 ((rd_T29 l0 0).f2).length c166_2) ∧ w'.cell? ad162 = some (.int .i64 ((rd_T31 l1 0).f0)) ∧ w'.cell? ⟨ad162.block, ad162.off + 1, none⟩ = some (.int .i64 ((rd_T31 l1 0).f1)) ∧ w'.cell? ⟨ad162.block, ad162.off + 2, none⟩ = some (.int .i64 ((rd_T31 l1 0).f2)) ∧ w'.cell? ad160 = some (.int .i64 ((rd_T29 l0 0).f0)) ∧ w'.cell? ⟨ad160.block, ad160.off + 1, none⟩ = some (.int .i64 ((rd_T29 l0 0).f1)) ∧ w'.cell? ⟨ad160.block, ad160.off + 2, none⟩ = some (.slice A166_2 ((rd_T29 l0 0).f2).length c166_2)) (ds := []) spec_l18Ok.d0 (by kernel_rfl) rfl rfl ⟨(bc_ HB.out hw160_0 :), (bc_ HB.out hw160_1 :), (bc_ HB.out hw160_2 :), (bc_ HB.out hw162_0 :), (bc_ HB.out hw162_1 :), (bc_ HB.out hw162_2 :), (bc_ HB.out hw164_0 :), (bc_ HB.out hw164_1 :), (bc_ HB.out hw164_2 :), (bc_ HB.out hw165_0 :), (bc_ HB.out hw165_1 :), (bc_ HB.out hw165_2 :), (bc_ HB.out hw166_0 :), (bc_ HB.out hw166_1 :), (bc_ HB.out hw166_2 :), (bc_ HB.out hw168_0 :), (bc_ HB.out hw168_1 :), (bc_ HB.out hw168_2 :), (bc_ HB.out hw169_0 :), (bc_ HB.out hw169_1 :), (bc_ HB.out hw169_2 :)⟩ (fun hHeld => ?_); refine with_tabW spec_l18Ok.tab1 spec_l18Ok.bits1 (fun HT_ HW_ => ?_)
             generalize w.drew = w13 at HB HR160_2 HR166_2 HR169_2 hx160_0 hx160_1 hx160_2 hx162_0 hx162_1 hx162_2 hx164_0 hx164_1 hx164_2 hx165_0 hx165_1 hx165_2 hx166_0 hx166_1 hx166_2 hx168_0 hx168_1 hx168_2 hx169_0 hx169_1 hx169_2 hHeld ⊢
             refine p1_ HT_.out 0 5 spec_l18Ok.d1 ?_
             refine p1_ HT_.out 1 6 spec_l18Ok.d2 ?_
             refine take_ (i := 2) (N := some 7) (v := ?_) (a' := ?_) spec_l18Ok.d3 rfl rfl (take_ofW HT_.out HW_.out (by kernel_rfl)) (fun _ _ _ h => h) (Or.inl ⟨by rfl, ?_⟩) hHeld ?_ ?_
             rotate_left
             · rintro w' ⟨s0, s1, s2, s3, s4, s5, s6, s7, s8, s9, s10, s11, s12, s13, s14, s15, s16, s17, s18, s19, s20⟩
               go_simp
               with_reducible rfl
             rotate_left
             · simp only [Act.put, sA, sB, sC, i64_w, i32_w]
               rfl
             refine one_ (i := 3) (N := some 8) spec_l18Ok.d4 rfl rfl (one_of HT_.out (by kernel_rfl)) (by decide) (fun K hK => ?_)
             refine goes_ Try.func77 (by kernel_rfl) rfl #[.agg #[.int .i64 ((rd_T29 l0 0).f0), .int .i64 ((rd_T29 l0 0).f1), .slice A160_2 ((rd_T29 l0 0).f2).length c160_2]] (by rfl) rfl rfl (by (try simp only [List.map_toArray, List.map_cons, List.map_nil]); first | done | rfl | (simp only [List.length_drop, List.length_take]; rfl)) ?_
             with_reducible refine (spec_ValidTiling.calls k ((rd_T29 l0 0).f0) ((rd_T29 l0 0).f1) _ _ ((rd_T29 l0 0).f2) true _ ?side1 ?side2 A4.out).mono ?_
             (case side1 => exact cb_ HR160_2.out HB.out)
             (case side2 => exact HC160_2.out)
             rintro e w14 ⟨rfl, hb⟩
             refine ⟨_, rfl, ?_⟩
             have n0_ := mkA (below_step (bs0_ HB.out) hb)
             clear HB
             have HB := n0_
             clear n0_
             (try clear hb)
             (try clear hb2)
             (try clear hk)
             (try clear hi)
             refine hK.out _ _ ⟨(bc_ HB.out hw160_0 :), (bc_ HB.out hw160_1 :), (bc_ HB.out hw160_2 :), (bc_ HB.out hw162_0 :), (bc_ HB.out hw162_1 :), (bc_ HB.out hw162_2 :), (bc_ HB.out hw164_0 :), (bc_ HB.out hw164_1 :), (bc_ HB.out hw164_2 :), (bc_ HB.out hw165_0 :), (bc_ HB.out hw165_1 :), (bc_ HB.out hw165_2 :), (bc_ HB.out hw166_0 :), (bc_ HB.out hw166_1 :), (bc_ HB.out hw166_2 :), (bc_ HB.out hw168_0 :), (bc_ HB.out hw168_1 :), (bc_ HB.out hw168_2 :), (bc_ HB.out hw169_0 :), (bc_ HB.out hw169_1 :), (bc_ HB.out hw169_2 :)⟩ (fun hHeld => ?_)
             clear hK K
             refine norm_ (a' := ?_) ?_ ?_
             rotate_left
             · show Act.put _ (some 8) _ = _
               simp only [Act.put, sA, sB, sC, i64_w, i32_w]
               rfl
             refine p1_ HT_.out 4 9 spec_l18Ok.d5 ?_
             refine p1_ HT_.out 5 10 spec_l18Ok.d6 ?_
             refine p1_ HT_.out 6 11 spec_l18Ok.d7 ?_
             refine p1_ HT_.out 7 12 spec_l18Ok.d8 ?_
             refine take_ (i := 8) (N := some 13) (v := ?_) (a' := ?_) spec_l18Ok.d9 rfl rfl (take_ofW HT_.out HW_.out (by kernel_rfl)) (fun _ _ _ h => h) (Or.inl ⟨by rfl, ?_⟩) hHeld ?_ ?_
             rotate_left
             · rintro w' ⟨s0, s1, s2, s3, s4, s5, s6, s7, s8, s9, s10, s11, s12, s13, s14, s15, s16, s17, s18, s19, s20⟩
               go_simp
               with_reducible rfl
             rotate_left
             · simp only [Act.put, sA, sB, sC, i64_w, i32_w]
               rfl
             refine one_ (i := 9) (N := some 14) spec_l18Ok.d10 rfl rfl (one_of HT_.out (by kernel_rfl)) (by decide) (fun K hK => ?_)
             refine goes_ Try.func83 (by kernel_rfl) rfl #[.int .i64 ((rd_T31 l1 0).f0)] (by rfl) rfl rfl (by (try simp only [List.map_toArray, List.map_cons, List.map_nil]); first | done | rfl | (simp only [List.length_drop, List.length_take]; rfl)) ?_
             with_reducible refine (spec_l02Turn.calls ((rd_T31 l1 0).f0) true _ A7.out).mono ?_
             rintro e w' ⟨rfl, ⟨nd, rfl⟩⟩
             refine ⟨_, rfl, ?_⟩
             refine hK.out _ _ ⟨(bc_ HB.out hw160_0 :), (bc_ HB.out hw160_1 :), (bc_ HB.out hw160_2 :), (bc_ HB.out hw162_0 :), (bc_ HB.out hw162_1 :), (bc_ HB.out hw162_2 :), (bc_ HB.out hw164_0 :), (bc_ HB.out hw164_1 :), (bc_ HB.out hw164_2 :), (bc_ HB.out hw165_0 :), (bc_ HB.out hw165_1 :), (bc_ HB.out hw165_2 :), (bc_ HB.out hw166_0 :), (bc_ HB.out hw166_1 :), (bc_ HB.out hw166_2 :), (bc_ HB.out hw168_0 :), (bc_ HB.out hw168_1 :), (bc_ HB.out hw168_2 :), (bc_ HB.out hw169_0 :), (bc_ HB.out hw169_1 :), (bc_ HB.out hw169_2 :)⟩ (fun hHeld => ?_)
             clear hK K
             refine norm_ (a' := ?_) ?_ ?_
             rotate_left
             · show Act.put _ (some 14) _ = _
               simp only [Act.put, sA, sB, sC, i64_w, i32_w]
               rfl
             refine p1_ HT_.out 10 15 spec_l18Ok.d11 ?_
             refine p1_ HT_.out 11 16 spec_l18Ok.d12 ?_
             refine p1_ HT_.out 12 17 spec_l18Ok.d13 ?_
             refine p1_ HT_.out 13 18 spec_l18Ok.d14 ?_
             refine p1_ HT_.out 14 19 spec_l18Ok.d15 ?_
             refine take_ (i := 15) (N := some 20) (v := ?_) (a' := ?_) spec_l18Ok.d16 rfl rfl (take_ofW HT_.out HW_.out (by kernel_rfl)) (fun _ _ _ h => h) (Or.inl ⟨by rfl, ?_⟩) hHeld ?_ ?_
             rotate_left
             · rintro w' ⟨s0, s1, s2, s3, s4, s5, s6, s7, s8, s9, s10, s11, s12, s13, s14, s15, s16, s17, s18, s19, s20⟩
               go_simp
               with_reducible rfl
             rotate_left
             · simp only [Act.put, sA, sB, sC, i64_w, i32_w]
               rfl
             refine p1_ HT_.out 16 21 spec_l18Ok.d17 ?_
             refine p1_ HT_.out 17 22 spec_l18Ok.d18 ?_
             refine p1_ HT_.out 18 23 spec_l18Ok.d19 ?_
             refine p0_ HT_.out 19 24 spec_l18Ok.d20 ?_
             refine p0_ HT_.out 20 25 spec_l18Ok.d21 ?_
             refine p0_ HT_.out 21 26 spec_l18Ok.d22 ?_
             refine p0_ HT_.out 22 27 spec_l18Ok.d23 ?_
             refine p0_ HT_.out 23 28 spec_l18Ok.d24 ?_
             refine p0_ HT_.out 24 29 spec_l18Ok.d25 ?_
             refine p0_ HT_.out 25 30 spec_l18Ok.d26 ?_
             refine p0_ HT_.out 26 31 spec_l18Ok.d27 ?_
             refine p0_ HT_.out 27 32 spec_l18Ok.d28 ?_
             refine p1_ HT_.out 28 33 spec_l18Ok.d29 ?_
             refine p1_ HT_.out 29 34 spec_l18Ok.d30 ?_
             refine p1_ HT_.out 30 35 spec_l18Ok.d31 ?_
             refine p1_ HT_.out 31 36 spec_l18Ok.d32 ?_
             refine p1_ HT_.out 32 37 spec_l18Ok.d33 ?_
             refine p1_ HT_.out 33 38 spec_l18Ok.d34 ?_
             refine p1_ HT_.out 35 40 spec_l18Ok.d35 ?_
             refine p1_ HT_.out 36 41 spec_l18Ok.d36 ?_
             refine p1_ HT_.out 37 42 spec_l18Ok.d37 ?_
             refine take_ (i := 34) (N := some 39) (v := ?_) (a' := ?_) spec_l18Ok.d38 rfl rfl (take_ofW HT_.out HW_.out (by kernel_rfl)) (fun _ _ _ h => h) (Or.inl ⟨by rfl, ?_⟩) hHeld ?_ ?_
             rotate_left
             · rintro w' ⟨s0, s1, s2, s3, s4, s5, s6, s7, s8, s9, s10, s11, s12, s13, s14, s15, s16, s17, s18, s19, s20⟩
               go_simp
               with_reducible rfl
             rotate_left
             · simp only [Act.put, sA, sB, sC, i64_w, i32_w]
               rfl
             refine take_ (i := 38) (N := some 43) (v := ?_) (a' := ?_) spec_l18Ok.d39 rfl rfl (take_ofW HT_.out HW_.out (by kernel_rfl)) (fun _ _ _ h => h) (Or.inl ⟨by rfl, ?_⟩) hHeld ?_ ?_
             rotate_left
             · rintro w' ⟨s0, s1, s2, s3, s4, s5, s6, s7, s8, s9, s10, s11, s12, s13, s14, s15, s16, s17, s18, s19, s20⟩
               go_simp
               with_reducible rfl
             rotate_left
             · simp only [Act.put, sA, sB, sC, i64_w, i32_w]
               rfl
             refine p1_ HT_.out 39 44 spec_l18Ok.d40 ?_
             refine one_ (i := 40) (N := some 45) spec_l18Ok.d41 rfl rfl (one_of HT_.out (by kernel_rfl)) (by decide) (fun K hK => ?_)
             refine goes_ Try.func57 (by kernel_rfl) rfl #[.int .i64 ((rd_T31 l1 0).f1), .int .i64 0, .int .i64 (wrap64 (((rd_T29 l0 0).f0) - 1))] (by rfl) rfl rfl (by (try simp only [List.map_toArray, List.map_cons, List.map_nil]); first | done | rfl | (simp only [List.length_drop, List.length_take]; rfl)) ?_
             with_reducible refine (spec_l00In.calls ((rd_T31 l1 0).f1) 0 (wrap64 (((rd_T29 l0 0).f0) - 1)) true _ A10.out).mono ?_
             rintro e w' ⟨rfl, ⟨nd, rfl⟩⟩
             refine ⟨_, rfl, ?_⟩
             refine hK.out _ _ ⟨(bc_ HB.out hw160_0 :), (bc_ HB.out hw160_1 :), (bc_ HB.out hw160_2 :), (bc_ HB.out hw162_0 :), (bc_ HB.out hw162_1 :), (bc_ HB.out hw162_2 :), (bc_ HB.out hw164_0 :), (bc_ HB.out hw164_1 :), (bc_ HB.out hw164_2 :), (bc_ HB.out hw165_0 :), (bc_ HB.out hw165_1 :), (bc_ HB.out hw165_2 :), (bc_ HB.out hw166_0 :), (bc_ HB.out hw166_1 :), (bc_ HB.out hw166_2 :), (bc_ HB.out hw168_0 :), (bc_ HB.out hw168_1 :), (bc_ HB.out hw168_2 :), (bc_ HB.out hw169_0 :), (bc_ HB.out hw169_1 :), (bc_ HB.out hw169_2 :)⟩ (fun hHeld => ?_)
             clear hK K
             refine norm_ (a' := ?_) ?_ ?_
             rotate_left
             · show Act.put _ (some 45) _ = _
               simp only [Act.put, sA, sB, sC, i64_w, i32_w]
               rfl
             refine p1_ HT_.out 41 46 spec_l18Ok.d42 ?_
             refine p1_ HT_.out 42 47 spec_l18Ok.d43 ?_
             refine p1_ HT_.out 43 48 spec_l18Ok.d44 ?_
             refine p1_ HT_.out 44 49 spec_l18Ok.d45 ?_
             refine p1_ HT_.out 45 50 spec_l18Ok.d46 ?_
             refine p1_ HT_.out 47 52 spec_l18Ok.d47 ?_
             refine p1_ HT_.out 48 53 spec_l18Ok.d48 ?_
             refine p1_ HT_.out 49 54 spec_l18Ok.d49 ?_
             refine take_ (i := 46) (N := some 51) (v := ?_) (a' := ?_) spec_l18Ok.d50 rfl rfl (take_ofW HT_.out HW_.out (by kernel_rfl)) (fun _ _ _ h => h) (Or.inl ⟨by rfl, ?_⟩) hHeld ?_ ?_
             rotate_left
             · rintro w' ⟨s0, s1, s2, s3, s4, s5, s6, s7, s8, s9, s10, s11, s12, s13, s14, s15, s16, s17, s18, s19, s20⟩
               go_simp
               with_reducible rfl
             rotate_left
             · simp only [Act.put, sA, sB, sC, i64_w, i32_w]
               rfl
             refine take_ (i := 50) (N := some 55) (v := ?_) (a' := ?_) spec_l18Ok.d51 rfl rfl (take_ofW HT_.out HW_.out (by kernel_rfl)) (fun _ _ _ h => h) (Or.inl ⟨by rfl, ?_⟩) hHeld ?_ ?_
             rotate_left
             · rintro w' ⟨s0, s1, s2, s3, s4, s5, s6, s7, s8, s9, s10, s11, s12, s13, s14, s15, s16, s17, s18, s19, s20⟩
               go_simp
               with_reducible rfl
             rotate_left
             · simp only [Act.put, sA, sB, sC, i64_w, i32_w]
               rfl
             refine p1_ HT_.out 51 56 spec_l18Ok.d52 ?_
             refine one_ (i := 52) (N := some 57) spec_l18Ok.d53 rfl rfl (one_of HT_.out (by kernel_rfl)) (by decide) (fun K hK => ?_)
             refine goes_ Try.func57 (by kernel_rfl) rfl #[.int .i64 ((rd_T31 l1 0).f2), .int .i64 0, .int .i64 (wrap64 (((rd_T29 l0 0).f1) - 1))] (by rfl) rfl rfl (by (try simp only [List.map_toArray, List.map_cons, List.map_nil]); first | done | rfl | (simp only [List.length_drop, List.length_take]; rfl)) ?_
             with_reducible refine (spec_l00In.calls ((rd_T31 l1 0).f2) 0 (wrap64 (((rd_T29 l0 0).f1) - 1)) t170 _ A12.out).mono ?_
             rintro e w' ⟨rfl, ⟨nd, rfl⟩⟩
             refine ⟨_, rfl, ?_⟩
             refine hK.out _ _ ⟨(bc_ HB.out hw160_0 :), (bc_ HB.out hw160_1 :), (bc_ HB.out hw160_2 :), (bc_ HB.out hw162_0 :), (bc_ HB.out hw162_1 :), (bc_ HB.out hw162_2 :), (bc_ HB.out hw164_0 :), (bc_ HB.out hw164_1 :), (bc_ HB.out hw164_2 :), (bc_ HB.out hw165_0 :), (bc_ HB.out hw165_1 :), (bc_ HB.out hw165_2 :), (bc_ HB.out hw166_0 :), (bc_ HB.out hw166_1 :), (bc_ HB.out hw166_2 :), (bc_ HB.out hw168_0 :), (bc_ HB.out hw168_1 :), (bc_ HB.out hw168_2 :), (bc_ HB.out hw169_0 :), (bc_ HB.out hw169_1 :), (bc_ HB.out hw169_2 :)⟩ (fun hHeld => ?_)
             clear hK K
             refine norm_ (a' := ?_) ?_ ?_
             rotate_left
             · show Act.put _ (some 57) _ = _
               simp only [Act.put, sA, sB, sC, i64_w, i32_w]
               rfl
             refine p1_ HT_.out 53 58 spec_l18Ok.d54 ?_
             refine p1_ HT_.out 54 4 spec_l18Ok.d55 ?_
             refine done_ (done_of HT_.out (by kernel_rfl)) ?_
             try go_wp2
             go_ret
             exact ⟨by first | rfl | (simp [errW_none, errW_some] <;> rfl) | (simp [*, errW_none, errW_some] <;> rfl), by repeat (first | (with_reducible first | exact HB.out | apply below_alloc | apply pw_below_drewN | apply below_drew1) | exact HB.out)⟩
           · replace c11 := Bool.eq_false_iff.mpr c11
             subst c11
             have H1 : (some false) = some r := by rw [if_neg (show ¬ (false = true) by decide)] at H; exact H
             clear H
             have H := H1
             clear H1
             obtain rfl := Option.some.inj H
             go_enter Try.func53, Try.ntmps53
             try go_wp2
             have n0_ := mkA (below_drew1 HB.out)
             clear HB
             have HB := n0_
             clear n0_
             have p160 : 0 ≤ (0 : Int) := (by omega)
             have q160 : 0 < (l0.length : Int) := of_decide_eq_true (by first | (with_reducible assumption) | assumption)
             obtain ⟨ad160, A160_2, c160_2, e160, hx160_0, hx160_1, hx160_2, hl160_2, hi160_2⟩ := at_T29 HR0.out 0 p160 q160
             have hw160_2 := hx160_2
             (try simp only [show ((0 : Int)).toNat = 0 from rfl, show 0 * 3 = 0 from rfl, Addr.add_zero'] at hw160_2)
             have hw160_1 := hx160_1
             (try simp only [show ((0 : Int)).toNat = 0 from rfl, show 0 * 3 = 0 from rfl, Addr.add_zero'] at hw160_1)
             have hw160_0 := hx160_0
             (try simp only [show ((0 : Int)).toNat = 0 from rfl, show 0 * 3 = 0 from rfl, Addr.add_zero'] at hw160_0)
             cases e160
             (simp only [Go.Proofs.YtnidibnhojedoaaX.rp_add] at hx160_0)
             (simp only [Go.Proofs.YtnidibnhojedoaaX.rp_add] at hx160_1)
             (simp only [Go.Proofs.YtnidibnhojedoaaX.rp_add] at hx160_2)
             have qi160 : (0 < l0.length) = True := eq_true (by omega)
             (try simp only [show ((0 : Int)).toNat = 0 from rfl, show 0 * 3 = 0 from rfl, Addr.add_zero'] at hx160_0 hx160_1 hx160_2)
             replace hx160_0 := bc_ HB.out hx160_0
             replace hx160_1 := bc_ HB.out hx160_1
             replace hx160_2 := bc_ HB.out hx160_2
             have HR160_2 := mkA hi160_2
             have HC160_2 := mkA hl160_2
             clear hi160_2 hl160_2
             replace p160 := eq_true p160
             replace q160 := eq_true q160
             have p162 : 0 ≤ (0 : Int) := (by omega)
             have q162 : 0 < (l1.length : Int) := of_decide_eq_true (by first | (with_reducible assumption) | assumption)
             obtain ⟨ad162, e162, hx162_0, hx162_1, hx162_2⟩ := at_T31 HR1.out 0 p162 q162
             have hw162_2 := hx162_2
             (try simp only [show ((0 : Int)).toNat = 0 from rfl, show 0 * 3 = 0 from rfl, Addr.add_zero'] at hw162_2)
             have hw162_1 := hx162_1
             (try simp only [show ((0 : Int)).toNat = 0 from rfl, show 0 * 3 = 0 from rfl, Addr.add_zero'] at hw162_1)
             have hw162_0 := hx162_0
             (try simp only [show ((0 : Int)).toNat = 0 from rfl, show 0 * 3 = 0 from rfl, Addr.add_zero'] at hw162_0)
             cases e162
             (simp only [Go.Proofs.YtnidibnhojedoaaX.rp_add] at hx162_0)
             (simp only [Go.Proofs.YtnidibnhojedoaaX.rp_add] at hx162_1)
             (simp only [Go.Proofs.YtnidibnhojedoaaX.rp_add] at hx162_2)
             have qi162 : (0 < l1.length) = True := eq_true (by omega)
             (try simp only [show ((0 : Int)).toNat = 0 from rfl, show 0 * 3 = 0 from rfl, Addr.add_zero'] at hx162_0 hx162_1 hx162_2)
             replace hx162_0 := bc_ HB.out hx162_0
             replace hx162_1 := bc_ HB.out hx162_1
             replace hx162_2 := bc_ HB.out hx162_2
             replace p162 := eq_true p162
             replace q162 := eq_true q162
             have p164 : 0 ≤ (0 : Int) := (by omega)
             have q164 : 0 < (l1.length : Int) := of_decide_eq_true (by first | (with_reducible assumption) | assumption)
             obtain ⟨ad164, e164, hx164_0, hx164_1, hx164_2⟩ := at_T31 HR1.out 0 p164 q164
             have hw164_2 := hx164_2
             (try simp only [show ((0 : Int)).toNat = 0 from rfl, show 0 * 3 = 0 from rfl, Addr.add_zero'] at hw164_2)
             have hw164_1 := hx164_1
             (try simp only [show ((0 : Int)).toNat = 0 from rfl, show 0 * 3 = 0 from rfl, Addr.add_zero'] at hw164_1)
             have hw164_0 := hx164_0
             (try simp only [show ((0 : Int)).toNat = 0 from rfl, show 0 * 3 = 0 from rfl, Addr.add_zero'] at hw164_0)
             obtain rfl : ad162 = ad164 := (by injection e164)
             (simp only [Go.Proofs.YtnidibnhojedoaaX.rp_add] at hx164_0)
             (simp only [Go.Proofs.YtnidibnhojedoaaX.rp_add] at hx164_1)
             (simp only [Go.Proofs.YtnidibnhojedoaaX.rp_add] at hx164_2)
             have qi164 : (0 < l1.length) = True := eq_true (by omega)
             (try simp only [show ((0 : Int)).toNat = 0 from rfl, show 0 * 3 = 0 from rfl, Addr.add_zero'] at hx164_0 hx164_1 hx164_2)
             replace hx164_0 := bc_ HB.out hx164_0
             replace hx164_1 := bc_ HB.out hx164_1
             replace hx164_2 := bc_ HB.out hx164_2
             replace p164 := eq_true p164
             replace q164 := eq_true q164
             have p165 : 0 ≤ (0 : Int) := (by omega)
             have q165 : 0 < (l1.length : Int) := of_decide_eq_true (by first | (with_reducible assumption) | assumption)
             obtain ⟨ad165, e165, hx165_0, hx165_1, hx165_2⟩ := at_T31 HR1.out 0 p165 q165
             have hw165_2 := hx165_2
             (try simp only [show ((0 : Int)).toNat = 0 from rfl, show 0 * 3 = 0 from rfl, Addr.add_zero'] at hw165_2)
             have hw165_1 := hx165_1
             (try simp only [show ((0 : Int)).toNat = 0 from rfl, show 0 * 3 = 0 from rfl, Addr.add_zero'] at hw165_1)
             have hw165_0 := hx165_0
             (try simp only [show ((0 : Int)).toNat = 0 from rfl, show 0 * 3 = 0 from rfl, Addr.add_zero'] at hw165_0)
             obtain rfl : ad162 = ad165 := (by injection e165)
             (simp only [Go.Proofs.YtnidibnhojedoaaX.rp_add] at hx165_0)
             (simp only [Go.Proofs.YtnidibnhojedoaaX.rp_add] at hx165_1)
             (simp only [Go.Proofs.YtnidibnhojedoaaX.rp_add] at hx165_2)
             have qi165 : (0 < l1.length) = True := eq_true (by omega)
             (try simp only [show ((0 : Int)).toNat = 0 from rfl, show 0 * 3 = 0 from rfl, Addr.add_zero'] at hx165_0 hx165_1 hx165_2)
             replace hx165_0 := bc_ HB.out hx165_0
             replace hx165_1 := bc_ HB.out hx165_1
             replace hx165_2 := bc_ HB.out hx165_2
             replace p165 := eq_true p165
             replace q165 := eq_true q165
             have p166 : 0 ≤ (0 : Int) := (by omega)
             have q166 : 0 < (l0.length : Int) := of_decide_eq_true (by first | (with_reducible assumption) | assumption)
             obtain ⟨ad166, A166_2, c166_2, e166, hx166_0, hx166_1, hx166_2, hl166_2, hi166_2⟩ := at_T29 HR0.out 0 p166 q166
             have hw166_2 := hx166_2
             (try simp only [show ((0 : Int)).toNat = 0 from rfl, show 0 * 3 = 0 from rfl, Addr.add_zero'] at hw166_2)
             have hw166_1 := hx166_1
             (try simp only [show ((0 : Int)).toNat = 0 from rfl, show 0 * 3 = 0 from rfl, Addr.add_zero'] at hw166_1)
             have hw166_0 := hx166_0
             (try simp only [show ((0 : Int)).toNat = 0 from rfl, show 0 * 3 = 0 from rfl, Addr.add_zero'] at hw166_0)
             obtain rfl : ad160 = ad166 := (by injection e166)
             (simp only [Go.Proofs.YtnidibnhojedoaaX.rp_add] at hx166_0)
             (simp only [Go.Proofs.YtnidibnhojedoaaX.rp_add] at hx166_1)
             (simp only [Go.Proofs.YtnidibnhojedoaaX.rp_add] at hx166_2)
             have qi166 : (0 < l0.length) = True := eq_true (by omega)
             (try simp only [show ((0 : Int)).toNat = 0 from rfl, show 0 * 3 = 0 from rfl, Addr.add_zero'] at hx166_0 hx166_1 hx166_2)
             replace hx166_0 := bc_ HB.out hx166_0
             replace hx166_1 := bc_ HB.out hx166_1
             replace hx166_2 := bc_ HB.out hx166_2
             have HR166_2 := mkA hi166_2
             have HC166_2 := mkA hl166_2
             clear hi166_2 hl166_2
             replace p166 := eq_true p166
             replace q166 := eq_true q166
             refine start_ (n := 55) (S := fun w' => w'.cell? ad160 = some (.int .i64 ((rd_T29 l0 0).f0)) ∧ w'.cell? ⟨ad160.block, ad160.off + 1, none⟩ = some (.int .i64 ((rd_T29 l0 0).f1)) ∧ w'.cell? ⟨ad160.block, ad160.off + 2, none⟩ = some (.slice A160_2 ((rd_T29 l0 0).f2).length c160_2) ∧ w'.cell? ad162 = some (.int .i64 ((rd_T31 l1 0).f0)) ∧ w'.cell? ⟨ad162.block, ad162.off + 1, none⟩ = some (.int .i64 ((rd_T31 l1 0).f1)) ∧ w'.cell? ⟨ad162.block, ad162.off + 2, none⟩ = some (.int .i64 ((rd_T31 l1 0).f2)) ∧ w'.cell? ad162 = some (.int .i64 ((rd_T31 l1 0).f0)) ∧ w'.cell? ⟨ad162.block, ad162.off + 1, none⟩ = some (.int .i64 ((rd_T31 l1 0).f1)) ∧ w'.cell? ⟨ad162.block, ad162.off + 2, none⟩ = some (.int .i64 ((rd_T31 l1 0).f2)) ∧ w'.cell? ad162 = some (.int .i64 ((rd_T31 l1 0).f0)) ∧ w'.cell? ⟨ad162.block, ad162.off + 1, none⟩ = some (.int .i64 ((rd_T31 l1 0).f1)) ∧ w'.cell? ⟨ad162.block, ad162.off + 2, none⟩ = some (.int .i64 ((rd_T31 l1 0).f2)) ∧ w'.cell? ad160 = some (.int .i64 ((rd_T29 l0 0).f0)) ∧ w'.cell? ⟨ad160.block, ad160.off + 1, none⟩ = some (.int .i64 ((rd_T29 l0 0).f1)) ∧ w'.cell? ⟨ad160.block, ad160.off + 2, none⟩ = some (.slice A166_2 ((rd_T29 l0 0).f2).length c166_2)) (ds := []) spec_l18Ok.d0 (by kernel_rfl) rfl rfl ⟨(bc_ HB.out hw160_0 :), (bc_ HB.out hw160_1 :), (bc_ HB.out hw160_2 :), (bc_ HB.out hw162_0 :), (bc_ HB.out hw162_1 :), (bc_ HB.out hw162_2 :), (bc_ HB.out hw164_0 :), (bc_ HB.out hw164_1 :), (bc_ HB.out hw164_2 :), (bc_ HB.out hw165_0 :), (bc_ HB.out hw165_1 :), (bc_ HB.out hw165_2 :), (bc_ HB.out hw166_0 :), (bc_ HB.out hw166_1 :), (bc_ HB.out hw166_2 :)⟩ (fun hHeld => ?_); refine with_tabW spec_l18Ok.tab1 spec_l18Ok.bits1 (fun HT_ HW_ => ?_)
             generalize w.drew = w15 at HB HR160_2 HR166_2 hx160_0 hx160_1 hx160_2 hx162_0 hx162_1 hx162_2 hx164_0 hx164_1 hx164_2 hx165_0 hx165_1 hx165_2 hx166_0 hx166_1 hx166_2 hHeld ⊢
             refine p1_ HT_.out 0 5 spec_l18Ok.d1 ?_
             refine p1_ HT_.out 1 6 spec_l18Ok.d2 ?_
             refine take_ (i := 2) (N := some 7) (v := ?_) (a' := ?_) spec_l18Ok.d3 rfl rfl (take_ofW HT_.out HW_.out (by kernel_rfl)) (fun _ _ _ h => h) (Or.inl ⟨by rfl, ?_⟩) hHeld ?_ ?_
             rotate_left
             · rintro w' ⟨s0, s1, s2, s3, s4, s5, s6, s7, s8, s9, s10, s11, s12, s13, s14⟩
               go_simp
               with_reducible rfl
             rotate_left
             · simp only [Act.put, sA, sB, sC, i64_w, i32_w]
               rfl
             refine one_ (i := 3) (N := some 8) spec_l18Ok.d4 rfl rfl (one_of HT_.out (by kernel_rfl)) (by decide) (fun K hK => ?_)
             refine goes_ Try.func77 (by kernel_rfl) rfl #[.agg #[.int .i64 ((rd_T29 l0 0).f0), .int .i64 ((rd_T29 l0 0).f1), .slice A160_2 ((rd_T29 l0 0).f2).length c160_2]] (by rfl) rfl rfl (by (try simp only [List.map_toArray, List.map_cons, List.map_nil]); first | done | rfl | (simp only [List.length_drop, List.length_take]; rfl)) ?_
             with_reducible refine (spec_ValidTiling.calls k ((rd_T29 l0 0).f0) ((rd_T29 l0 0).f1) _ _ ((rd_T29 l0 0).f2) true _ ?side1 ?side2 A4.out).mono ?_
             (case side1 => exact cb_ HR160_2.out HB.out)
             (case side2 => exact HC160_2.out)
             rintro e w16 ⟨rfl, hb⟩
             refine ⟨_, rfl, ?_⟩
             have n0_ := mkA (below_step (bs0_ HB.out) hb)
             clear HB
             have HB := n0_
             clear n0_
             (try clear hb)
             (try clear hb2)
             (try clear hk)
             (try clear hi)
             refine hK.out _ _ ⟨(bc_ HB.out hw160_0 :), (bc_ HB.out hw160_1 :), (bc_ HB.out hw160_2 :), (bc_ HB.out hw162_0 :), (bc_ HB.out hw162_1 :), (bc_ HB.out hw162_2 :), (bc_ HB.out hw164_0 :), (bc_ HB.out hw164_1 :), (bc_ HB.out hw164_2 :), (bc_ HB.out hw165_0 :), (bc_ HB.out hw165_1 :), (bc_ HB.out hw165_2 :), (bc_ HB.out hw166_0 :), (bc_ HB.out hw166_1 :), (bc_ HB.out hw166_2 :)⟩ (fun hHeld => ?_)
             clear hK K
             refine norm_ (a' := ?_) ?_ ?_
             rotate_left
             · show Act.put _ (some 8) _ = _
               simp only [Act.put, sA, sB, sC, i64_w, i32_w]
               rfl
             refine p1_ HT_.out 4 9 spec_l18Ok.d5 ?_
             refine p1_ HT_.out 5 10 spec_l18Ok.d6 ?_
             refine p1_ HT_.out 6 11 spec_l18Ok.d7 ?_
             refine p1_ HT_.out 7 12 spec_l18Ok.d8 ?_
             refine take_ (i := 8) (N := some 13) (v := ?_) (a' := ?_) spec_l18Ok.d9 rfl rfl (take_ofW HT_.out HW_.out (by kernel_rfl)) (fun _ _ _ h => h) (Or.inl ⟨by rfl, ?_⟩) hHeld ?_ ?_
             rotate_left
             · rintro w' ⟨s0, s1, s2, s3, s4, s5, s6, s7, s8, s9, s10, s11, s12, s13, s14⟩
               go_simp
               with_reducible rfl
             rotate_left
             · simp only [Act.put, sA, sB, sC, i64_w, i32_w]
               rfl
             refine one_ (i := 9) (N := some 14) spec_l18Ok.d10 rfl rfl (one_of HT_.out (by kernel_rfl)) (by decide) (fun K hK => ?_)
             refine goes_ Try.func83 (by kernel_rfl) rfl #[.int .i64 ((rd_T31 l1 0).f0)] (by rfl) rfl rfl (by (try simp only [List.map_toArray, List.map_cons, List.map_nil]); first | done | rfl | (simp only [List.length_drop, List.length_take]; rfl)) ?_
             with_reducible refine (spec_l02Turn.calls ((rd_T31 l1 0).f0) true _ A7.out).mono ?_
             rintro e w' ⟨rfl, ⟨nd, rfl⟩⟩
             refine ⟨_, rfl, ?_⟩
             refine hK.out _ _ ⟨(bc_ HB.out hw160_0 :), (bc_ HB.out hw160_1 :), (bc_ HB.out hw160_2 :), (bc_ HB.out hw162_0 :), (bc_ HB.out hw162_1 :), (bc_ HB.out hw162_2 :), (bc_ HB.out hw164_0 :), (bc_ HB.out hw164_1 :), (bc_ HB.out hw164_2 :), (bc_ HB.out hw165_0 :), (bc_ HB.out hw165_1 :), (bc_ HB.out hw165_2 :), (bc_ HB.out hw166_0 :), (bc_ HB.out hw166_1 :), (bc_ HB.out hw166_2 :)⟩ (fun hHeld => ?_)
             clear hK K
             refine norm_ (a' := ?_) ?_ ?_
             rotate_left
             · show Act.put _ (some 14) _ = _
               simp only [Act.put, sA, sB, sC, i64_w, i32_w]
               rfl
             refine p1_ HT_.out 10 15 spec_l18Ok.d11 ?_
             refine p1_ HT_.out 11 16 spec_l18Ok.d12 ?_
             refine p1_ HT_.out 12 17 spec_l18Ok.d13 ?_
             refine p1_ HT_.out 13 18 spec_l18Ok.d14 ?_
             refine p1_ HT_.out 14 19 spec_l18Ok.d15 ?_
             refine take_ (i := 15) (N := some 20) (v := ?_) (a' := ?_) spec_l18Ok.d16 rfl rfl (take_ofW HT_.out HW_.out (by kernel_rfl)) (fun _ _ _ h => h) (Or.inl ⟨by rfl, ?_⟩) hHeld ?_ ?_
             rotate_left
             · rintro w' ⟨s0, s1, s2, s3, s4, s5, s6, s7, s8, s9, s10, s11, s12, s13, s14⟩
               go_simp
               with_reducible rfl
             rotate_left
             · simp only [Act.put, sA, sB, sC, i64_w, i32_w]
               rfl
             refine p1_ HT_.out 16 21 spec_l18Ok.d17 ?_
             refine p1_ HT_.out 17 22 spec_l18Ok.d18 ?_
             refine p1_ HT_.out 18 23 spec_l18Ok.d19 ?_
             refine p0_ HT_.out 19 24 spec_l18Ok.d20 ?_
             refine p0_ HT_.out 20 25 spec_l18Ok.d21 ?_
             refine p0_ HT_.out 21 26 spec_l18Ok.d22 ?_
             refine p0_ HT_.out 22 27 spec_l18Ok.d23 ?_
             refine p0_ HT_.out 23 28 spec_l18Ok.d24 ?_
             refine p0_ HT_.out 24 29 spec_l18Ok.d25 ?_
             refine p0_ HT_.out 25 30 spec_l18Ok.d26 ?_
             refine p0_ HT_.out 26 31 spec_l18Ok.d27 ?_
             refine p0_ HT_.out 27 32 spec_l18Ok.d28 ?_
             refine p1_ HT_.out 28 33 spec_l18Ok.d29 ?_
             refine p1_ HT_.out 29 34 spec_l18Ok.d30 ?_
             refine p1_ HT_.out 30 35 spec_l18Ok.d31 ?_
             refine p1_ HT_.out 31 36 spec_l18Ok.d32 ?_
             refine p1_ HT_.out 32 37 spec_l18Ok.d33 ?_
             refine p1_ HT_.out 33 38 spec_l18Ok.d34 ?_
             refine p1_ HT_.out 35 40 spec_l18Ok.d35 ?_
             refine p1_ HT_.out 36 41 spec_l18Ok.d36 ?_
             refine p1_ HT_.out 37 42 spec_l18Ok.d37 ?_
             refine take_ (i := 34) (N := some 39) (v := ?_) (a' := ?_) spec_l18Ok.d38 rfl rfl (take_ofW HT_.out HW_.out (by kernel_rfl)) (fun _ _ _ h => h) (Or.inl ⟨by rfl, ?_⟩) hHeld ?_ ?_
             rotate_left
             · rintro w' ⟨s0, s1, s2, s3, s4, s5, s6, s7, s8, s9, s10, s11, s12, s13, s14⟩
               go_simp
               with_reducible rfl
             rotate_left
             · simp only [Act.put, sA, sB, sC, i64_w, i32_w]
               rfl
             refine take_ (i := 38) (N := some 43) (v := ?_) (a' := ?_) spec_l18Ok.d39 rfl rfl (take_ofW HT_.out HW_.out (by kernel_rfl)) (fun _ _ _ h => h) (Or.inl ⟨by rfl, ?_⟩) hHeld ?_ ?_
             rotate_left
             · rintro w' ⟨s0, s1, s2, s3, s4, s5, s6, s7, s8, s9, s10, s11, s12, s13, s14⟩
               go_simp
               with_reducible rfl
             rotate_left
             · simp only [Act.put, sA, sB, sC, i64_w, i32_w]
               rfl
             refine p1_ HT_.out 39 44 spec_l18Ok.d40 ?_
             refine one_ (i := 40) (N := some 45) spec_l18Ok.d41 rfl rfl (one_of HT_.out (by kernel_rfl)) (by decide) (fun K hK => ?_)
             refine goes_ Try.func57 (by kernel_rfl) rfl #[.int .i64 ((rd_T31 l1 0).f1), .int .i64 0, .int .i64 (wrap64 (((rd_T29 l0 0).f0) - 1))] (by rfl) rfl rfl (by (try simp only [List.map_toArray, List.map_cons, List.map_nil]); first | done | rfl | (simp only [List.length_drop, List.length_take]; rfl)) ?_
             with_reducible refine (spec_l00In.calls ((rd_T31 l1 0).f1) 0 (wrap64 (((rd_T29 l0 0).f0) - 1)) false _ A10.out).mono ?_
             rintro e w' ⟨rfl, ⟨nd, rfl⟩⟩
             refine ⟨_, rfl, ?_⟩
             refine hK.out _ _ ⟨(bc_ HB.out hw160_0 :), (bc_ HB.out hw160_1 :), (bc_ HB.out hw160_2 :), (bc_ HB.out hw162_0 :), (bc_ HB.out hw162_1 :), (bc_ HB.out hw162_2 :), (bc_ HB.out hw164_0 :), (bc_ HB.out hw164_1 :), (bc_ HB.out hw164_2 :), (bc_ HB.out hw165_0 :), (bc_ HB.out hw165_1 :), (bc_ HB.out hw165_2 :), (bc_ HB.out hw166_0 :), (bc_ HB.out hw166_1 :), (bc_ HB.out hw166_2 :)⟩ (fun hHeld => ?_)
             clear hK K
             refine norm_ (a' := ?_) ?_ ?_
             rotate_left
             · show Act.put _ (some 45) _ = _
               simp only [Act.put, sA, sB, sC, i64_w, i32_w]
               rfl
             refine p1_ HT_.out 41 46 spec_l18Ok.d42 ?_
             refine p1_ HT_.out 42 47 spec_l18Ok.d43 ?_
             refine p0_ HT_.out 43 48 spec_l18Ok.d44 ?_
             refine p0_ HT_.out 44 49 spec_l18Ok.d45 ?_
             refine p0_ HT_.out 45 50 spec_l18Ok.d46 ?_
             refine p0_ HT_.out 46 51 spec_l18Ok.d56 ?_
             refine p0_ HT_.out 47 52 spec_l18Ok.d57 ?_
             refine p0_ HT_.out 48 53 spec_l18Ok.d58 ?_
             refine p0_ HT_.out 49 54 spec_l18Ok.d50 ?_
             refine p0_ HT_.out 50 55 spec_l18Ok.d51 ?_
             refine p0_ HT_.out 51 56 spec_l18Ok.d52 ?_
             refine p0_ HT_.out 52 57 spec_l18Ok.d53 ?_
             refine p1_ HT_.out 53 58 spec_l18Ok.d54 ?_
             refine p1_ HT_.out 54 4 spec_l18Ok.d55 ?_
             refine done_ (done_of HT_.out (by kernel_rfl)) ?_
             try go_wp2
             go_ret
             exact ⟨by first | rfl | (simp [errW_none, errW_some] <;> rfl) | (simp [*, errW_none, errW_some] <;> rfl), by repeat (first | (with_reducible first | exact HB.out | apply below_alloc | apply pw_below_drewN | apply below_drew1) | exact HB.out)⟩
         · rw [if_neg c9] at H
           have c9b0 : ((Int.tmod ((rd_T31 l1 0).f0) 2) == 0) = false := beq_eq_false_iff_ne.mpr c9
           have c9b1 : ((Int.tmod ((rd_T31 l1 0).f0) 2) != 0) = true := bne_iff_ne.mpr c9
           by_cases c17 : ((rd_T29 l0 0).f0) = ((rd_T29 l0 0).f1)
           · rw [if_pos c17] at H
             have c17b0 : (((rd_T29 l0 0).f0) == ((rd_T29 l0 0).f1)) = true := beq_iff_eq.mpr c17
             have c17b1 : (((rd_T29 l0 0).f0) != ((rd_T29 l0 0).f1)) = false := bne_eq_false_iff_eq.mpr c17
             clear c17
             replace H := Option.bind_eq_some_iff.mp H
             obtain ⟨t175, A180, H⟩ := H
             replace H : (if t175 = true then ((spec_l00In.f ((rd_T31 l1 0).f2) 0 (wrap64 (((rd_T29 l0 0).f1) - 1))).bind fun t178 => (some t178)) else (some false)) = some r := H
             have A18 := mkA A180
             clear A180
             by_cases c19 : t175 = true
             · subst c19
               have H1 : ((spec_l00In.f ((rd_T31 l1 0).f2) 0 (wrap64 (((rd_T29 l0 0).f1) - 1))).bind fun t178 => (some t178)) = some r := by rw [if_pos rfl] at H; exact H
               clear H
               have H := H1
               clear H1
               replace H := Option.bind_eq_some_iff.mp H
               obtain ⟨t178, A200, H⟩ := H
               replace H : (some t178) = some r := H
               have A20 := mkA A200
               clear A200
               obtain rfl := Option.some.inj H
               go_enter Try.func53, Try.ntmps53
               try go_wp2
               have n0_ := mkA (below_drew1 HB.out)
               clear HB
               have HB := n0_
               clear n0_
               have p160 : 0 ≤ (0 : Int) := (by omega)
               have q160 : 0 < (l0.length : Int) := of_decide_eq_true (by first | (with_reducible assumption) | assumption)
               obtain ⟨ad160, A160_2, c160_2, e160, hx160_0, hx160_1, hx160_2, hl160_2, hi160_2⟩ := at_T29 HR0.out 0 p160 q160
               have hw160_2 := hx160_2
               (try simp only [show ((0 : Int)).toNat = 0 from rfl, show 0 * 3 = 0 from rfl, Addr.add_zero'] at hw160_2)
               have hw160_1 := hx160_1
               (try simp only [show ((0 : Int)).toNat = 0 from rfl, show 0 * 3 = 0 from rfl, Addr.add_zero'] at hw160_1)
               have hw160_0 := hx160_0
               (try simp only [show ((0 : Int)).toNat = 0 from rfl, show 0 * 3 = 0 from rfl, Addr.add_zero'] at hw160_0)
               cases e160
               (simp only [Go.Proofs.YtnidibnhojedoaaX.rp_add] at hx160_0)
               (simp only [Go.Proofs.YtnidibnhojedoaaX.rp_add] at hx160_1)
               (simp only [Go.Proofs.YtnidibnhojedoaaX.rp_add] at hx160_2)
               have qi160 : (0 < l0.length) = True := eq_true (by omega)
               (try simp only [show ((0 : Int)).toNat = 0 from rfl, show 0 * 3 = 0 from rfl, Addr.add_zero'] at hx160_0 hx160_1 hx160_2)
               replace hx160_0 := bc_ HB.out hx160_0
               replace hx160_1 := bc_ HB.out hx160_1
               replace hx160_2 := bc_ HB.out hx160_2
               have HR160_2 := mkA hi160_2
               have HC160_2 := mkA hl160_2
               clear hi160_2 hl160_2
               replace p160 := eq_true p160
               replace q160 := eq_true q160
               have p162 : 0 ≤ (0 : Int) := (by omega)
               have q162 : 0 < (l1.length : Int) := of_decide_eq_true (by first | (with_reducible assumption) | assumption)
               obtain ⟨ad162, e162, hx162_0, hx162_1, hx162_2⟩ := at_T31 HR1.out 0 p162 q162
               have hw162_2 := hx162_2
               (try simp only [show ((0 : Int)).toNat = 0 from rfl, show 0 * 3 = 0 from rfl, Addr.add_zero'] at hw162_2)
               have hw162_1 := hx162_1
               (try simp only [show ((0 : Int)).toNat = 0 from rfl, show 0 * 3 = 0 from rfl, Addr.add_zero'] at hw162_1)
               have hw162_0 := hx162_0
               (try simp only [show ((0 : Int)).toNat = 0 from rfl, show 0 * 3 = 0 from rfl, Addr.add_zero'] at hw162_0)
               cases e162
               (simp only [Go.Proofs.YtnidibnhojedoaaX.rp_add] at hx162_0)
               (simp only [Go.Proofs.YtnidibnhojedoaaX.rp_add] at hx162_1)
               (simp only [Go.Proofs.YtnidibnhojedoaaX.rp_add] at hx162_2)
               have qi162 : (0 < l1.length) = True := eq_true (by omega)
               (try simp only [show ((0 : Int)).toNat = 0 from rfl, show 0 * 3 = 0 from rfl, Addr.add_zero'] at hx162_0 hx162_1 hx162_2)
               replace hx162_0 := bc_ HB.out hx162_0
               replace hx162_1 := bc_ HB.out hx162_1
               replace hx162_2 := bc_ HB.out hx162_2
               replace p162 := eq_true p162
               replace q162 := eq_true q162
               have p164 : 0 ≤ (0 : Int) := (by omega)
               have q164 : 0 < (l1.length : Int) := of_decide_eq_true (by first | (with_reducible assumption) | assumption)
               obtain ⟨ad164, e164, hx164_0, hx164_1, hx164_2⟩ := at_T31 HR1.out 0 p164 q164
               have hw164_2 := hx164_2
               (try simp only [show ((0 : Int)).toNat = 0 from rfl, show 0 * 3 = 0 from rfl, Addr.add_zero'] at hw164_2)
               have hw164_1 := hx164_1
               (try simp only [show ((0 : Int)).toNat = 0 from rfl, show 0 * 3 = 0 from rfl, Addr.add_zero'] at hw164_1)
               have hw164_0 := hx164_0
               (try simp only [show ((0 : Int)).toNat = 0 from rfl, show 0 * 3 = 0 from rfl, Addr.add_zero'] at hw164_0)
               obtain rfl : ad162 = ad164 := (by injection e164)
               (simp only [Go.Proofs.YtnidibnhojedoaaX.rp_add] at hx164_0)
               (simp only [Go.Proofs.YtnidibnhojedoaaX.rp_add] at hx164_1)
               (simp only [Go.Proofs.YtnidibnhojedoaaX.rp_add] at hx164_2)
               have qi164 : (0 < l1.length) = True := eq_true (by omega)
               (try simp only [show ((0 : Int)).toNat = 0 from rfl, show 0 * 3 = 0 from rfl, Addr.add_zero'] at hx164_0 hx164_1 hx164_2)
               replace hx164_0 := bc_ HB.out hx164_0
               replace hx164_1 := bc_ HB.out hx164_1
               replace hx164_2 := bc_ HB.out hx164_2
               replace p164 := eq_true p164
               replace q164 := eq_true q164
               have p171 : 0 ≤ (0 : Int) := (by omega)
               have q171 : 0 < (l0.length : Int) := of_decide_eq_true (by first | (with_reducible assumption) | assumption)
               obtain ⟨ad171, A171_2, c171_2, e171, hx171_0, hx171_1, hx171_2, hl171_2, hi171_2⟩ := at_T29 HR0.out 0 p171 q171
               have hw171_2 := hx171_2
               (try simp only [show ((0 : Int)).toNat = 0 from rfl, show 0 * 3 = 0 from rfl, Addr.add_zero'] at hw171_2)
               have hw171_1 := hx171_1
               (try simp only [show ((0 : Int)).toNat = 0 from rfl, show 0 * 3 = 0 from rfl, Addr.add_zero'] at hw171_1)
               have hw171_0 := hx171_0
               (try simp only [show ((0 : Int)).toNat = 0 from rfl, show 0 * 3 = 0 from rfl, Addr.add_zero'] at hw171_0)
               obtain rfl : ad160 = ad171 := (by injection e171)
               (simp only [Go.Proofs.YtnidibnhojedoaaX.rp_add] at hx171_0)
               (simp only [Go.Proofs.YtnidibnhojedoaaX.rp_add] at hx171_1)
               (simp only [Go.Proofs.YtnidibnhojedoaaX.rp_add] at hx171_2)
               have qi171 : (0 < l0.length) = True := eq_true (by omega)
               (try simp only [show ((0 : Int)).toNat = 0 from rfl, show 0 * 3 = 0 from rfl, Addr.add_zero'] at hx171_0 hx171_1 hx171_2)
               replace hx171_0 := bc_ HB.out hx171_0
               replace hx171_1 := bc_ HB.out hx171_1
               replace hx171_2 := bc_ HB.out hx171_2
               have HR171_2 := mkA hi171_2
               have HC171_2 := mkA hl171_2
               clear hi171_2 hl171_2
               replace p171 := eq_true p171
               replace q171 := eq_true q171
               have p172 : 0 ≤ (0 : Int) := (by omega)
               have q172 : 0 < (l0.length : Int) := of_decide_eq_true (by first | (with_reducible assumption) | assumption)
               obtain ⟨ad172, A172_2, c172_2, e172, hx172_0, hx172_1, hx172_2, hl172_2, hi172_2⟩ := at_T29 HR0.out 0 p172 q172
               have hw172_2 := hx172_2
               (try simp only [show ((0 : Int)).toNat = 0 from rfl, show 0 * 3 = 0 from rfl, Addr.add_zero'] at hw172_2)
               have hw172_1 := hx172_1
               (try simp only [show ((0 : Int)).toNat = 0 from rfl, show 0 * 3 = 0 from rfl, Addr.add_zero'] at hw172_1)
               have hw172_0 := hx172_0
               (try simp only [show ((0 : Int)).toNat = 0 from rfl, show 0 * 3 = 0 from rfl, Addr.add_zero'] at hw172_0)
               obtain rfl : ad160 = ad172 := (by injection e172)
               (simp only [Go.Proofs.YtnidibnhojedoaaX.rp_add] at hx172_0)
               (simp only [Go.Proofs.YtnidibnhojedoaaX.rp_add] at hx172_1)
               (simp only [Go.Proofs.YtnidibnhojedoaaX.rp_add] at hx172_2)
               have qi172 : (0 < l0.length) = True := eq_true (by omega)
               (try simp only [show ((0 : Int)).toNat = 0 from rfl, show 0 * 3 = 0 from rfl, Addr.add_zero'] at hx172_0 hx172_1 hx172_2)
               replace hx172_0 := bc_ HB.out hx172_0
               replace hx172_1 := bc_ HB.out hx172_1
               replace hx172_2 := bc_ HB.out hx172_2
               have HR172_2 := mkA hi172_2
               have HC172_2 := mkA hl172_2
               clear hi172_2 hl172_2
               replace p172 := eq_true p172
               replace q172 := eq_true q172
               have ea_ := Option.some.inj (hx171_2.symm.trans hx172_2)
               injection ea_ with ea_ en_ ec_
               subst ea_
               subst ec_
               clear en_
               have p173 : 0 ≤ (0 : Int) := (by omega)
               have q173 : 0 < (l1.length : Int) := of_decide_eq_true (by first | (with_reducible assumption) | assumption)
               obtain ⟨ad173, e173, hx173_0, hx173_1, hx173_2⟩ := at_T31 HR1.out 0 p173 q173
               have hw173_2 := hx173_2
               (try simp only [show ((0 : Int)).toNat = 0 from rfl, show 0 * 3 = 0 from rfl, Addr.add_zero'] at hw173_2)
               have hw173_1 := hx173_1
               (try simp only [show ((0 : Int)).toNat = 0 from rfl, show 0 * 3 = 0 from rfl, Addr.add_zero'] at hw173_1)
               have hw173_0 := hx173_0
               (try simp only [show ((0 : Int)).toNat = 0 from rfl, show 0 * 3 = 0 from rfl, Addr.add_zero'] at hw173_0)
               obtain rfl : ad162 = ad173 := (by injection e173)
               (simp only [Go.Proofs.YtnidibnhojedoaaX.rp_add] at hx173_0)
               (simp only [Go.Proofs.YtnidibnhojedoaaX.rp_add] at hx173_1)
               (simp only [Go.Proofs.YtnidibnhojedoaaX.rp_add] at hx173_2)
               have qi173 : (0 < l1.length) = True := eq_true (by omega)
               (try simp only [show ((0 : Int)).toNat = 0 from rfl, show 0 * 3 = 0 from rfl, Addr.add_zero'] at hx173_0 hx173_1 hx173_2)
               replace hx173_0 := bc_ HB.out hx173_0
               replace hx173_1 := bc_ HB.out hx173_1
               replace hx173_2 := bc_ HB.out hx173_2
               replace p173 := eq_true p173
               replace q173 := eq_true q173
               have p174 : 0 ≤ (0 : Int) := (by omega)
               have q174 : 0 < (l0.length : Int) := of_decide_eq_true (by first | (with_reducible assumption) | assumption)
               obtain ⟨ad174, A174_2, c174_2, e174, hx174_0, hx174_1, hx174_2, hl174_2, hi174_2⟩ := at_T29 HR0.out 0 p174 q174
               have hw174_2 := hx174_2
               (try simp only [show ((0 : Int)).toNat = 0 from rfl, show 0 * 3 = 0 from rfl, Addr.add_zero'] at hw174_2)
               have hw174_1 := hx174_1
               (try simp only [show ((0 : Int)).toNat = 0 from rfl, show 0 * 3 = 0 from rfl, Addr.add_zero'] at hw174_1)
               have hw174_0 := hx174_0
               (try simp only [show ((0 : Int)).toNat = 0 from rfl, show 0 * 3 = 0 from rfl, Addr.add_zero'] at hw174_0)
               obtain rfl : ad160 = ad174 := (by injection e174)
               (simp only [Go.Proofs.YtnidibnhojedoaaX.rp_add] at hx174_0)
               (simp only [Go.Proofs.YtnidibnhojedoaaX.rp_add] at hx174_1)
               (simp only [Go.Proofs.YtnidibnhojedoaaX.rp_add] at hx174_2)
               have qi174 : (0 < l0.length) = True := eq_true (by omega)
               (try simp only [show ((0 : Int)).toNat = 0 from rfl, show 0 * 3 = 0 from rfl, Addr.add_zero'] at hx174_0 hx174_1 hx174_2)
               replace hx174_0 := bc_ HB.out hx174_0
               replace hx174_1 := bc_ HB.out hx174_1
               replace hx174_2 := bc_ HB.out hx174_2
               have HR174_2 := mkA hi174_2
               have HC174_2 := mkA hl174_2
               clear hi174_2 hl174_2
               replace p174 := eq_true p174
               replace q174 := eq_true q174
               have ea_ := Option.some.inj (hx171_2.symm.trans hx174_2)
               injection ea_ with ea_ en_ ec_
               subst ea_
               subst ec_
               clear en_
               have p176 : 0 ≤ (0 : Int) := (by omega)
               have q176 : 0 < (l1.length : Int) := of_decide_eq_true (by first | (with_reducible assumption) | assumption)
               obtain ⟨ad176, e176, hx176_0, hx176_1, hx176_2⟩ := at_T31 HR1.out 0 p176 q176
               have hw176_2 := hx176_2
               (try simp only [show ((0 : Int)).toNat = 0 from rfl, show 0 * 3 = 0 from rfl, Addr.add_zero'] at hw176_2)
               have hw176_1 := hx176_1
               (try simp only [show ((0 : Int)).toNat = 0 from rfl, show 0 * 3 = 0 from rfl, Addr.add_zero'] at hw176_1)
               have hw176_0 := hx176_0
               (try simp only [show ((0 : Int)).toNat = 0 from rfl, show 0 * 3 = 0 from rfl, Addr.add_zero'] at hw176_0)
               obtain rfl : ad162 = ad176 := (by injection e176)
               (simp only [Go.Proofs.YtnidibnhojedoaaX.rp_add] at hx176_0)
               (simp only [Go.Proofs.YtnidibnhojedoaaX.rp_add] at hx176_1)
               (simp only [Go.Proofs.YtnidibnhojedoaaX.rp_add] at hx176_2)
               have qi176 : (0 < l1.length) = True := eq_true (by omega)
               (try simp only [show ((0 : Int)).toNat = 0 from rfl, show 0 * 3 = 0 from rfl, Addr.add_zero'] at hx176_0 hx176_1 hx176_2)
               replace hx176_0 := bc_ HB.out hx176_0
               replace hx176_1 := bc_ HB.out hx176_1
               replace hx176_2 := bc_ HB.out hx176_2
               replace p176 := eq_true p176
               replace q176 := eq_true q176
               have p177 : 0 ≤ (0 : Int) := (by omega)
               have q177 : 0 < (l0.length : Int) := of_decide_eq_true (by first | (with_reducible assumption) | assumption)
               obtain ⟨ad177, A177_2, c177_2, e177, hx177_0, hx177_1, hx177_2, hl177_2, hi177_2⟩ := at_T29 HR0.out 0 p177 q177
               have hw177_2 := hx177_2
               (try simp only [show ((0 : Int)).toNat = 0 from rfl, show 0 * 3 = 0 from rfl, Addr.add_zero'] at hw177_2)
               have hw177_1 := hx177_1
               (try simp only [show ((0 : Int)).toNat = 0 from rfl, show 0 * 3 = 0 from rfl, Addr.add_zero'] at hw177_1)
               have hw177_0 := hx177_0
               (try simp only [show ((0 : Int)).toNat = 0 from rfl, show 0 * 3 = 0 from rfl, Addr.add_zero'] at hw177_0)
               obtain rfl : ad160 = ad177 := (by injection e177)
               (simp only [Go.Proofs.YtnidibnhojedoaaX.rp_add] at hx177_0)
               (simp only [Go.Proofs.YtnidibnhojedoaaX.rp_add] at hx177_1)
               (simp only [Go.Proofs.YtnidibnhojedoaaX.rp_add] at hx177_2)
               have qi177 : (0 < l0.length) = True := eq_true (by omega)
               (try simp only [show ((0 : Int)).toNat = 0 from rfl, show 0 * 3 = 0 from rfl, Addr.add_zero'] at hx177_0 hx177_1 hx177_2)
               replace hx177_0 := bc_ HB.out hx177_0
               replace hx177_1 := bc_ HB.out hx177_1
               replace hx177_2 := bc_ HB.out hx177_2
               have HR177_2 := mkA hi177_2
               have HC177_2 := mkA hl177_2
               clear hi177_2 hl177_2
               replace p177 := eq_true p177
               replace q177 := eq_true q177
               have ea_ := Option.some.inj (hx171_2.symm.trans hx177_2)
               injection ea_ with ea_ en_ ec_
               subst ea_
               subst ec_
               clear en_
               refine start_ (n := 55) (S := fun w' => w'.cell? ad160 = some (.int .i64 ((rd_T29 l0 0).f0)) ∧ w'.cell? ⟨ad160.block, ad160.off + 1, none⟩ = some (.int .i64 ((rd_T29 l0 0).f1)) ∧ w'.cell? ⟨ad160.block, ad160.off + 2, none⟩ = some (.slice A160_2 ((rd_T29 l0 0).f2).length c160_2) ∧ w'.cell? ad162 = some (.int .i64 ((rd_T31 l1 0).f0)) ∧ w'.cell? ⟨ad162.block, ad162.off + 1, none⟩ = some (.int .i64 ((rd_T31 l1 0).f1)) ∧ w'.cell? ⟨ad162.block, ad162.off + 2, none⟩ = some (.int .i64 ((rd_T31 l1 0).f2)) ∧ w'.cell? ad162 = some (.int .i64 ((rd_T31 l1 0).f0)) ∧ w'.cell? ⟨ad162.block, ad162.off + 1, none⟩ = some (.int .i64 ((rd_T31 l1 0).f1)) ∧ w'.cell? ⟨ad162.block, ad162.off + 2, none⟩ = some (.int .i64 ((rd_T31 l1 0).f2)) ∧ w'.cell? ad160 = some (.int .i64 ((rd_T29 l0 0).f0)) ∧ w'.cell? ⟨ad160.block, ad160.off + 1, none⟩ = some (.int .i64 ((rd_T29 l0 0).f1)) ∧ w'.cell? ⟨ad160.block, ad160.off + 2, none⟩ = some (.slice A171_2 ((rd_T29 l0 0).f2).length c171_2) ∧ w'.cell? ad160 = some (.int .i64 ((rd_T29 l0 0).f0)) ∧ w'.cell? ⟨ad160.block, ad160.off + 1, none⟩ = some (.int .i64 ((rd_T29 l0 0).f1)) ∧ w'.cell? ⟨ad160.block, ad160.off + 2, none⟩ = some (.slice A171_2 ((rd_T29 l0 0).f2).length c171_2) ∧ w'.cell? ad162 = some (.int .i64 ((rd_T31 l1 0).f0)) ∧ w'.cell? ⟨ad162.block, ad162.off + 1, none⟩ = some (.int .i64 ((rd_T31 l1 0).f1)) ∧ w'.cell? ⟨ad162.block, ad162.off + 2, none⟩ = some (.int .i64 ((rd_T31 l1 0).f2)) ∧ w'.cell? ad160 = some (.int .i64 ((rd_T29 l0 0).f0)) ∧ w'.cell? ⟨ad160.block, ad160.off + 1, none⟩ = some (.int .i64 ((rd_T29 l0 0).f1)) ∧ w'.cell? ⟨ad160.block, ad160.off + 2, none⟩ = some (.slice A171_2 ((rd_T29 l0 0).f2).length c171_2) ∧ w'.cell? ad162 = some (.int .i64 ((rd_T31 l1 0).f0)) ∧ w'.cell? ⟨ad162.block, ad162.off + 1, none⟩ = some (.int .i64 ((rd_T31 l1 0).f1)) ∧ w'.cell? ⟨ad162.block, ad162.off + 2, none⟩ = some (.int .i64 ((rd_T31 l1 0).f2)) ∧ w'.cell? ad160 = some (.int .i64 ((rd_T29 l0 0).f0)) ∧ w'.cell? ⟨ad160.block, ad160.off + 1, none⟩ = some (.int .i64 ((rd_T29 l0 0).f1)) ∧ w'.cell? ⟨ad160.block, ad160.off + 2, none⟩ = some (.slice A171_2 ((rd_T29 l0 0).f2).length c171_2)) (ds := []) spec_l18Ok.d0 (by kernel_rfl) rfl rfl ⟨(bc_ HB.out hw160_0 :), (bc_ HB.out hw160_1 :), (bc_ HB.out hw160_2 :), (bc_ HB.out hw162_0 :), (bc_ HB.out hw162_1 :), (bc_ HB.out hw162_2 :), (bc_ HB.out hw164_0 :), (bc_ HB.out hw164_1 :), (bc_ HB.out hw164_2 :), (bc_ HB.out hw171_0 :), (bc_ HB.out hw171_1 :), (bc_ HB.out hw171_2 :), (bc_ HB.out hw172_0 :), (bc_ HB.out hw172_1 :), (bc_ HB.out hw172_2 :), (bc_ HB.out hw173_0 :), (bc_ HB.out hw173_1 :), (bc_ HB.out hw173_2 :), (bc_ HB.out hw174_0 :), (bc_ HB.out hw174_1 :), (bc_ HB.out hw174_2 :), (bc_ HB.out hw176_0 :), (bc_ HB.out hw176_1 :), (bc_ HB.out hw176_2 :), (bc_ HB.out hw177_0 :), (bc_ HB.out hw177_1 :), (bc_ HB.out hw177_2 :)⟩ (fun hHeld => ?_); refine with_tabW spec_l18Ok.tab1 spec_l18Ok.bits1 (fun HT_ HW_ => ?_)
               generalize w.drew = w21 at HB HR160_2 HR171_2 HR172_2 HR174_2 HR177_2 hx160_0 hx160_1 hx160_2 hx162_0 hx162_1 hx162_2 hx164_0 hx164_1 hx164_2 hx171_0 hx171_1 hx171_2 hx172_0 hx172_1 hx172_2 hx173_0 hx173_1 hx173_2 hx174_0 hx174_1 hx174_2 hx176_0 hx176_1 hx176_2 hx177_0 hx177_1 hx177_2 hHeld ⊢
               refine p1_ HT_.out 0 5 spec_l18Ok.d1 ?_
               refine p1_ HT_.out 1 6 spec_l18Ok.d2 ?_
               refine take_ (i := 2) (N := some 7) (v := ?_) (a' := ?_) spec_l18Ok.d3 rfl rfl (take_ofW HT_.out HW_.out (by kernel_rfl)) (fun _ _ _ h => h) (Or.inl ⟨by rfl, ?_⟩) hHeld ?_ ?_
               rotate_left
               · rintro w' ⟨s0, s1, s2, s3, s4, s5, s6, s7, s8, s9, s10, s11, s12, s13, s14, s15, s16, s17, s18, s19, s20, s21, s22, s23, s24, s25, s26⟩
                 go_simp
                 with_reducible rfl
               rotate_left
               · simp only [Act.put, sA, sB, sC, i64_w, i32_w]
                 rfl
               refine one_ (i := 3) (N := some 8) spec_l18Ok.d4 rfl rfl (one_of HT_.out (by kernel_rfl)) (by decide) (fun K hK => ?_)
               refine goes_ Try.func77 (by kernel_rfl) rfl #[.agg #[.int .i64 ((rd_T29 l0 0).f0), .int .i64 ((rd_T29 l0 0).f1), .slice A160_2 ((rd_T29 l0 0).f2).length c160_2]] (by rfl) rfl rfl (by (try simp only [List.map_toArray, List.map_cons, List.map_nil]); first | done | rfl | (simp only [List.length_drop, List.length_take]; rfl)) ?_
               with_reducible refine (spec_ValidTiling.calls k ((rd_T29 l0 0).f0) ((rd_T29 l0 0).f1) _ _ ((rd_T29 l0 0).f2) true _ ?side1 ?side2 A4.out).mono ?_
               (case side1 => exact cb_ HR160_2.out HB.out)
               (case side2 => exact HC160_2.out)
               rintro e w22 ⟨rfl, hb⟩
               refine ⟨_, rfl, ?_⟩
               have n0_ := mkA (below_step (bs0_ HB.out) hb)
               clear HB
               have HB := n0_
               clear n0_
               (try clear hb)
               (try clear hb2)
               (try clear hk)
               (try clear hi)
               refine hK.out _ _ ⟨(bc_ HB.out hw160_0 :), (bc_ HB.out hw160_1 :), (bc_ HB.out hw160_2 :), (bc_ HB.out hw162_0 :), (bc_ HB.out hw162_1 :), (bc_ HB.out hw162_2 :), (bc_ HB.out hw164_0 :), (bc_ HB.out hw164_1 :), (bc_ HB.out hw164_2 :), (bc_ HB.out hw171_0 :), (bc_ HB.out hw171_1 :), (bc_ HB.out hw171_2 :), (bc_ HB.out hw172_0 :), (bc_ HB.out hw172_1 :), (bc_ HB.out hw172_2 :), (bc_ HB.out hw173_0 :), (bc_ HB.out hw173_1 :), (bc_ HB.out hw173_2 :), (bc_ HB.out hw174_0 :), (bc_ HB.out hw174_1 :), (bc_ HB.out hw174_2 :), (bc_ HB.out hw176_0 :), (bc_ HB.out hw176_1 :), (bc_ HB.out hw176_2 :), (bc_ HB.out hw177_0 :), (bc_ HB.out hw177_1 :), (bc_ HB.out hw177_2 :)⟩ (fun hHeld => ?_)
               clear hK K
               refine norm_ (a' := ?_) ?_ ?_
               rotate_left
               · show Act.put _ (some 8) _ = _
                 simp only [Act.put, sA, sB, sC, i64_w, i32_w]
                 rfl
               refine p1_ HT_.out 4 9 spec_l18Ok.d5 ?_
               refine p1_ HT_.out 5 10 spec_l18Ok.d6 ?_
               refine p1_ HT_.out 6 11 spec_l18Ok.d7 ?_
               refine p1_ HT_.out 7 12 spec_l18Ok.d8 ?_
               refine take_ (i := 8) (N := some 13) (v := ?_) (a' := ?_) spec_l18Ok.d9 rfl rfl (take_ofW HT_.out HW_.out (by kernel_rfl)) (fun _ _ _ h => h) (Or.inl ⟨by rfl, ?_⟩) hHeld ?_ ?_
               rotate_left
               · rintro w' ⟨s0, s1, s2, s3, s4, s5, s6, s7, s8, s9, s10, s11, s12, s13, s14, s15, s16, s17, s18, s19, s20, s21, s22, s23, s24, s25, s26⟩
                 go_simp
                 with_reducible rfl
               rotate_left
               · simp only [Act.put, sA, sB, sC, i64_w, i32_w]
                 rfl
               refine one_ (i := 9) (N := some 14) spec_l18Ok.d10 rfl rfl (one_of HT_.out (by kernel_rfl)) (by decide) (fun K hK => ?_)
               refine goes_ Try.func83 (by kernel_rfl) rfl #[.int .i64 ((rd_T31 l1 0).f0)] (by rfl) rfl rfl (by (try simp only [List.map_toArray, List.map_cons, List.map_nil]); first | done | rfl | (simp only [List.length_drop, List.length_take]; rfl)) ?_
               with_reducible refine (spec_l02Turn.calls ((rd_T31 l1 0).f0) true _ A7.out).mono ?_
               rintro e w' ⟨rfl, ⟨nd, rfl⟩⟩
               refine ⟨_, rfl, ?_⟩
               refine hK.out _ _ ⟨(bc_ HB.out hw160_0 :), (bc_ HB.out hw160_1 :), (bc_ HB.out hw160_2 :), (bc_ HB.out hw162_0 :), (bc_ HB.out hw162_1 :), (bc_ HB.out hw162_2 :), (bc_ HB.out hw164_0 :), (bc_ HB.out hw164_1 :), (bc_ HB.out hw164_2 :), (bc_ HB.out hw171_0 :), (bc_ HB.out hw171_1 :), (bc_ HB.out hw171_2 :), (bc_ HB.out hw172_0 :), (bc_ HB.out hw172_1 :), (bc_ HB.out hw172_2 :), (bc_ HB.out hw173_0 :), (bc_ HB.out hw173_1 :), (bc_ HB.out hw173_2 :), (bc_ HB.out hw174_0 :), (bc_ HB.out hw174_1 :), (bc_ HB.out hw174_2 :), (bc_ HB.out hw176_0 :), (bc_ HB.out hw176_1 :), (bc_ HB.out hw176_2 :), (bc_ HB.out hw177_0 :), (bc_ HB.out hw177_1 :), (bc_ HB.out hw177_2 :)⟩ (fun hHeld => ?_)
               clear hK K
               refine norm_ (a' := ?_) ?_ ?_
               rotate_left
               · show Act.put _ (some 14) _ = _
                 simp only [Act.put, sA, sB, sC, i64_w, i32_w]
                 rfl
               refine p1_ HT_.out 10 15 spec_l18Ok.d11 ?_
               refine p1_ HT_.out 11 16 spec_l18Ok.d12 ?_
               refine p1_ HT_.out 12 17 spec_l18Ok.d13 ?_
               refine p1_ HT_.out 13 18 spec_l18Ok.d14 ?_
               refine p1_ HT_.out 14 19 spec_l18Ok.d15 ?_
               refine take_ (i := 15) (N := some 20) (v := ?_) (a' := ?_) spec_l18Ok.d16 rfl rfl (take_ofW HT_.out HW_.out (by kernel_rfl)) (fun _ _ _ h => h) (Or.inl ⟨by rfl, ?_⟩) hHeld ?_ ?_
               rotate_left
               · rintro w' ⟨s0, s1, s2, s3, s4, s5, s6, s7, s8, s9, s10, s11, s12, s13, s14, s15, s16, s17, s18, s19, s20, s21, s22, s23, s24, s25, s26⟩
                 go_simp
                 with_reducible rfl
               rotate_left
               · simp only [Act.put, sA, sB, sC, i64_w, i32_w]
                 rfl
               refine p1_ HT_.out 16 21 spec_l18Ok.d17 ?_
               refine p1_ HT_.out 17 22 spec_l18Ok.d18 ?_
               refine p1_ HT_.out 18 23 spec_l18Ok.d19 ?_
               refine p1_ HT_.out 19 24 spec_l18Ok.d20 ?_
               refine p1_ HT_.out 20 25 spec_l18Ok.d21 ?_
               refine p1_ HT_.out 21 26 spec_l18Ok.d22 ?_
               refine p1_ HT_.out 23 28 spec_l18Ok.d59 ?_
               refine p1_ HT_.out 24 29 spec_l18Ok.d60 ?_
               refine p1_ HT_.out 25 30 spec_l18Ok.d61 ?_
               refine take_ (i := 22) (N := some 27) (v := ?_) (a' := ?_) spec_l18Ok.d26 rfl rfl (take_ofW HT_.out HW_.out (by kernel_rfl)) (fun _ _ _ h => h) (Or.inl ⟨by rfl, ?_⟩) hHeld ?_ ?_
               rotate_left
               · rintro w' ⟨s0, s1, s2, s3, s4, s5, s6, s7, s8, s9, s10, s11, s12, s13, s14, s15, s16, s17, s18, s19, s20, s21, s22, s23, s24, s25, s26⟩
                 go_simp
                 with_reducible rfl
               rotate_left
               · simp only [Act.put, sA, sB, sC, i64_w, i32_w]
                 rfl
               refine take_ (i := 26) (N := some 31) (v := ?_) (a' := ?_) spec_l18Ok.d27 rfl rfl (take_ofW HT_.out HW_.out (by kernel_rfl)) (fun _ _ _ h => h) (Or.inl ⟨by rfl, ?_⟩) hHeld ?_ ?_
               rotate_left
               · rintro w' ⟨s0, s1, s2, s3, s4, s5, s6, s7, s8, s9, s10, s11, s12, s13, s14, s15, s16, s17, s18, s19, s20, s21, s22, s23, s24, s25, s26⟩
                 go_simp
                 with_reducible rfl
               rotate_left
               · simp only [Act.put, sA, sB, sC, i64_w, i32_w]
                 rfl
               refine p1_ HT_.out 27 32 spec_l18Ok.d28 ?_
               refine p1_ HT_.out 28 33 spec_l18Ok.d29 ?_
               refine p1_ HT_.out 29 34 spec_l18Ok.d30 ?_
               refine p1_ HT_.out 30 35 spec_l18Ok.d31 ?_
               refine p1_ HT_.out 31 36 spec_l18Ok.d32 ?_
               refine p1_ HT_.out 32 37 spec_l18Ok.d33 ?_
               refine p1_ HT_.out 33 38 spec_l18Ok.d34 ?_
               refine p1_ HT_.out 35 40 spec_l18Ok.d35 ?_
               refine p1_ HT_.out 36 41 spec_l18Ok.d36 ?_
               refine p1_ HT_.out 37 42 spec_l18Ok.d37 ?_
               refine take_ (i := 34) (N := some 39) (v := ?_) (a' := ?_) spec_l18Ok.d38 rfl rfl (take_ofW HT_.out HW_.out (by kernel_rfl)) (fun _ _ _ h => h) (Or.inl ⟨by rfl, ?_⟩) hHeld ?_ ?_
               rotate_left
               · rintro w' ⟨s0, s1, s2, s3, s4, s5, s6, s7, s8, s9, s10, s11, s12, s13, s14, s15, s16, s17, s18, s19, s20, s21, s22, s23, s24, s25, s26⟩
                 go_simp
                 with_reducible rfl
               rotate_left
               · simp only [Act.put, sA, sB, sC, i64_w, i32_w]
                 rfl
               refine take_ (i := 38) (N := some 43) (v := ?_) (a' := ?_) spec_l18Ok.d39 rfl rfl (take_ofW HT_.out HW_.out (by kernel_rfl)) (fun _ _ _ h => h) (Or.inl ⟨by rfl, ?_⟩) hHeld ?_ ?_
               rotate_left
               · rintro w' ⟨s0, s1, s2, s3, s4, s5, s6, s7, s8, s9, s10, s11, s12, s13, s14, s15, s16, s17, s18, s19, s20, s21, s22, s23, s24, s25, s26⟩
                 go_simp
                 with_reducible rfl
               rotate_left
               · simp only [Act.put, sA, sB, sC, i64_w, i32_w]
                 rfl
               refine p1_ HT_.out 39 44 spec_l18Ok.d40 ?_
               refine one_ (i := 40) (N := some 45) spec_l18Ok.d41 rfl rfl (one_of HT_.out (by kernel_rfl)) (by decide) (fun K hK => ?_)
               refine goes_ Try.func57 (by kernel_rfl) rfl #[.int .i64 ((rd_T31 l1 0).f1), .int .i64 0, .int .i64 (wrap64 (((rd_T29 l0 0).f0) - 1))] (by rfl) rfl rfl (by (try simp only [List.map_toArray, List.map_cons, List.map_nil]); first | done | rfl | (simp only [List.length_drop, List.length_take]; rfl)) ?_
               with_reducible refine (spec_l00In.calls ((rd_T31 l1 0).f1) 0 (wrap64 (((rd_T29 l0 0).f0) - 1)) true _ A18.out).mono ?_
               rintro e w' ⟨rfl, ⟨nd, rfl⟩⟩
               refine ⟨_, rfl, ?_⟩
               refine hK.out _ _ ⟨(bc_ HB.out hw160_0 :), (bc_ HB.out hw160_1 :), (bc_ HB.out hw160_2 :), (bc_ HB.out hw162_0 :), (bc_ HB.out hw162_1 :), (bc_ HB.out hw162_2 :), (bc_ HB.out hw164_0 :), (bc_ HB.out hw164_1 :), (bc_ HB.out hw164_2 :), (bc_ HB.out hw171_0 :), (bc_ HB.out hw171_1 :), (bc_ HB.out hw171_2 :), (bc_ HB.out hw172_0 :), (bc_ HB.out hw172_1 :), (bc_ HB.out hw172_2 :), (bc_ HB.out hw173_0 :), (bc_ HB.out hw173_1 :), (bc_ HB.out hw173_2 :), (bc_ HB.out hw174_0 :), (bc_ HB.out hw174_1 :), (bc_ HB.out hw174_2 :), (bc_ HB.out hw176_0 :), (bc_ HB.out hw176_1 :), (bc_ HB.out hw176_2 :), (bc_ HB.out hw177_0 :), (bc_ HB.out hw177_1 :), (bc_ HB.out hw177_2 :)⟩ (fun hHeld => ?_)
               clear hK K
               refine norm_ (a' := ?_) ?_ ?_
               rotate_left
               · show Act.put _ (some 45) _ = _
                 simp only [Act.put, sA, sB, sC, i64_w, i32_w]
                 rfl
               refine p1_ HT_.out 41 46 spec_l18Ok.d42 ?_
               refine p1_ HT_.out 42 47 spec_l18Ok.d43 ?_
               refine p1_ HT_.out 43 48 spec_l18Ok.d44 ?_
               refine p1_ HT_.out 44 49 spec_l18Ok.d45 ?_
               refine p1_ HT_.out 45 50 spec_l18Ok.d46 ?_
               refine p1_ HT_.out 47 52 spec_l18Ok.d47 ?_
               refine p1_ HT_.out 48 53 spec_l18Ok.d48 ?_
               refine p1_ HT_.out 49 54 spec_l18Ok.d49 ?_
               refine take_ (i := 46) (N := some 51) (v := ?_) (a' := ?_) spec_l18Ok.d50 rfl rfl (take_ofW HT_.out HW_.out (by kernel_rfl)) (fun _ _ _ h => h) (Or.inl ⟨by rfl, ?_⟩) hHeld ?_ ?_
               rotate_left
               · rintro w' ⟨s0, s1, s2, s3, s4, s5, s6, s7, s8, s9, s10, s11, s12, s13, s14, s15, s16, s17, s18, s19, s20, s21, s22, s23, s24, s25, s26⟩
                 go_simp
                 with_reducible rfl
               rotate_left
               · simp only [Act.put, sA, sB, sC, i64_w, i32_w]
                 rfl
               refine take_ (i := 50) (N := some 55) (v := ?_) (a' := ?_) spec_l18Ok.d51 rfl rfl (take_ofW HT_.out HW_.out (by kernel_rfl)) (fun _ _ _ h => h) (Or.inl ⟨by rfl, ?_⟩) hHeld ?_ ?_
               rotate_left
               · rintro w' ⟨s0, s1, s2, s3, s4, s5, s6, s7, s8, s9, s10, s11, s12, s13, s14, s15, s16, s17, s18, s19, s20, s21, s22, s23, s24, s25, s26⟩
                 go_simp
                 with_reducible rfl
               rotate_left
               · simp only [Act.put, sA, sB, sC, i64_w, i32_w]
                 rfl
               refine p1_ HT_.out 51 56 spec_l18Ok.d52 ?_
               refine one_ (i := 52) (N := some 57) spec_l18Ok.d53 rfl rfl (one_of HT_.out (by kernel_rfl)) (by decide) (fun K hK => ?_)
               refine goes_ Try.func57 (by kernel_rfl) rfl #[.int .i64 ((rd_T31 l1 0).f2), .int .i64 0, .int .i64 (wrap64 (((rd_T29 l0 0).f1) - 1))] (by rfl) rfl rfl (by (try simp only [List.map_toArray, List.map_cons, List.map_nil]); first | done | rfl | (simp only [List.length_drop, List.length_take]; rfl)) ?_
               with_reducible refine (spec_l00In.calls ((rd_T31 l1 0).f2) 0 (wrap64 (((rd_T29 l0 0).f1) - 1)) t178 _ A20.out).mono ?_
               rintro e w' ⟨rfl, ⟨nd, rfl⟩⟩
               refine ⟨_, rfl, ?_⟩
               refine hK.out _ _ ⟨(bc_ HB.out hw160_0 :), (bc_ HB.out hw160_1 :), (bc_ HB.out hw160_2 :), (bc_ HB.out hw162_0 :), (bc_ HB.out hw162_1 :), (bc_ HB.out hw162_2 :), (bc_ HB.out hw164_0 :), (bc_ HB.out hw164_1 :), (bc_ HB.out hw164_2 :), (bc_ HB.out hw171_0 :), (bc_ HB.out hw171_1 :), (bc_ HB.out hw171_2 :), (bc_ HB.out hw172_0 :), (bc_ HB.out hw172_1 :), (bc_ HB.out hw172_2 :), (bc_ HB.out hw173_0 :), (bc_ HB.out hw173_1 :), (bc_ HB.out hw173_2 :), (bc_ HB.out hw174_0 :), (bc_ HB.out hw174_1 :), (bc_ HB.out hw174_2 :), (bc_ HB.out hw176_0 :), (bc_ HB.out hw176_1 :), (bc_ HB.out hw176_2 :), (bc_ HB.out hw177_0 :), (bc_ HB.out hw177_1 :), (bc_ HB.out hw177_2 :)⟩ (fun hHeld => ?_)
               clear hK K
               refine norm_ (a' := ?_) ?_ ?_
               rotate_left
               · show Act.put _ (some 57) _ = _
                 simp only [Act.put, sA, sB, sC, i64_w, i32_w]
                 rfl
               refine p1_ HT_.out 53 58 spec_l18Ok.d54 ?_
               refine p1_ HT_.out 54 4 spec_l18Ok.d55 ?_
               refine done_ (done_of HT_.out (by kernel_rfl)) ?_
               try go_wp2
               go_ret
               exact ⟨by first | rfl | (simp [errW_none, errW_some] <;> rfl) | (simp [*, errW_none, errW_some] <;> rfl), by repeat (first | (with_reducible first | exact HB.out | apply below_alloc | apply pw_below_drewN | apply below_drew1) | exact HB.out)⟩
             · replace c19 := Bool.eq_false_iff.mpr c19
               subst c19
               have H1 : (some false) = some r := by rw [if_neg (show ¬ (false = true) by decide)] at H; exact H
               clear H
               have H := H1
               clear H1
               obtain rfl := Option.some.inj H
               go_enter Try.func53, Try.ntmps53
               try go_wp2
               have n0_ := mkA (below_drew1 HB.out)
               clear HB
               have HB := n0_
               clear n0_
               have p160 : 0 ≤ (0 : Int) := (by omega)
               have q160 : 0 < (l0.length : Int) := of_decide_eq_true (by first | (with_reducible assumption) | assumption)
               obtain ⟨ad160, A160_2, c160_2, e160, hx160_0, hx160_1, hx160_2, hl160_2, hi160_2⟩ := at_T29 HR0.out 0 p160 q160
               have hw160_2 := hx160_2
               (try simp only [show ((0 : Int)).toNat = 0 from rfl, show 0 * 3 = 0 from rfl, Addr.add_zero'] at hw160_2)
               have hw160_1 := hx160_1
               (try simp only [show ((0 : Int)).toNat = 0 from rfl, show 0 * 3 = 0 from rfl, Addr.add_zero'] at hw160_1)
               have hw160_0 := hx160_0
               (try simp only [show ((0 : Int)).toNat = 0 from rfl, show 0 * 3 = 0 from rfl, Addr.add_zero'] at hw160_0)
               cases e160
               (simp only [Go.Proofs.YtnidibnhojedoaaX.rp_add] at hx160_0)
               (simp only [Go.Proofs.YtnidibnhojedoaaX.rp_add] at hx160_1)
               (simp only [Go.Proofs.YtnidibnhojedoaaX.rp_add] at hx160_2)
               have qi160 : (0 < l0.length) = True := eq_true (by omega)
               (try simp only [show ((0 : Int)).toNat = 0 from rfl, show 0 * 3 = 0 from rfl, Addr.add_zero'] at hx160_0 hx160_1 hx160_2)
               replace hx160_0 := bc_ HB.out hx160_0
               replace hx160_1 := bc_ HB.out hx160_1
               replace hx160_2 := bc_ HB.out hx160_2
               have HR160_2 := mkA hi160_2
               have HC160_2 := mkA hl160_2
               clear hi160_2 hl160_2
               replace p160 := eq_true p160
               replace q160 := eq_true q160
               have p162 : 0 ≤ (0 : Int) := (by omega)
               have q162 : 0 < (l1.length : Int) := of_decide_eq_true (by first | (with_reducible assumption) | assumption)
               obtain ⟨ad162, e162, hx162_0, hx162_1, hx162_2⟩ := at_T31 HR1.out 0 p162 q162
               have hw162_2 := hx162_2
               (try simp only [show ((0 : Int)).toNat = 0 from rfl, show 0 * 3 = 0 from rfl, Addr.add_zero'] at hw162_2)
               have hw162_1 := hx162_1
               (try simp only [show ((0 : Int)).toNat = 0 from rfl, show 0 * 3 = 0 from rfl, Addr.add_zero'] at hw162_1)
               have hw162_0 := hx162_0
               (try simp only [show ((0 : Int)).toNat = 0 from rfl, show 0 * 3 = 0 from rfl, Addr.add_zero'] at hw162_0)
               cases e162
               (simp only [Go.Proofs.YtnidibnhojedoaaX.rp_add] at hx162_0)
               (simp only [Go.Proofs.YtnidibnhojedoaaX.rp_add] at hx162_1)
               (simp only [Go.Proofs.YtnidibnhojedoaaX.rp_add] at hx162_2)
               have qi162 : (0 < l1.length) = True := eq_true (by omega)
               (try simp only [show ((0 : Int)).toNat = 0 from rfl, show 0 * 3 = 0 from rfl, Addr.add_zero'] at hx162_0 hx162_1 hx162_2)
               replace hx162_0 := bc_ HB.out hx162_0
               replace hx162_1 := bc_ HB.out hx162_1
               replace hx162_2 := bc_ HB.out hx162_2
               replace p162 := eq_true p162
               replace q162 := eq_true q162
               have p164 : 0 ≤ (0 : Int) := (by omega)
               have q164 : 0 < (l1.length : Int) := of_decide_eq_true (by first | (with_reducible assumption) | assumption)
               obtain ⟨ad164, e164, hx164_0, hx164_1, hx164_2⟩ := at_T31 HR1.out 0 p164 q164
               have hw164_2 := hx164_2
               (try simp only [show ((0 : Int)).toNat = 0 from rfl, show 0 * 3 = 0 from rfl, Addr.add_zero'] at hw164_2)
               have hw164_1 := hx164_1
               (try simp only [show ((0 : Int)).toNat = 0 from rfl, show 0 * 3 = 0 from rfl, Addr.add_zero'] at hw164_1)
               have hw164_0 := hx164_0
               (try simp only [show ((0 : Int)).toNat = 0 from rfl, show 0 * 3 = 0 from rfl, Addr.add_zero'] at hw164_0)
               obtain rfl : ad162 = ad164 := (by injection e164)
               (simp only [Go.Proofs.YtnidibnhojedoaaX.rp_add] at hx164_0)
               (simp only [Go.Proofs.YtnidibnhojedoaaX.rp_add] at hx164_1)
               (simp only [Go.Proofs.YtnidibnhojedoaaX.rp_add] at hx164_2)
               have qi164 : (0 < l1.length) = True := eq_true (by omega)
               (try simp only [show ((0 : Int)).toNat = 0 from rfl, show 0 * 3 = 0 from rfl, Addr.add_zero'] at hx164_0 hx164_1 hx164_2)
               replace hx164_0 := bc_ HB.out hx164_0
               replace hx164_1 := bc_ HB.out hx164_1
               replace hx164_2 := bc_ HB.out hx164_2
               replace p164 := eq_true p164
               replace q164 := eq_true q164
               have p171 : 0 ≤ (0 : Int) := (by omega)
               have q171 : 0 < (l0.length : Int) := of_decide_eq_true (by first | (with_reducible assumption) | assumption)
               obtain ⟨ad171, A171_2, c171_2, e171, hx171_0, hx171_1, hx171_2, hl171_2, hi171_2⟩ := at_T29 HR0.out 0 p171 q171
               have hw171_2 := hx171_2
               (try simp only [show ((0 : Int)).toNat = 0 from rfl, show 0 * 3 = 0 from rfl, Addr.add_zero'] at hw171_2)
               have hw171_1 := hx171_1
               (try simp only [show ((0 : Int)).toNat = 0 from rfl, show 0 * 3 = 0 from rfl, Addr.add_zero'] at hw171_1)
               have hw171_0 := hx171_0
               (try simp only [show ((0 : Int)).toNat = 0 from rfl, show 0 * 3 = 0 from rfl, Addr.add_zero'] at hw171_0)
               obtain rfl : ad160 = ad171 := (by injection e171)
               (simp only [Go.Proofs.YtnidibnhojedoaaX.rp_add] at hx171_0)
               (simp only [Go.Proofs.YtnidibnhojedoaaX.rp_add] at hx171_1)
               (simp only [Go.Proofs.YtnidibnhojedoaaX.rp_add] at hx171_2)
               have qi171 : (0 < l0.length) = True := eq_true (by omega)
               (try simp only [show ((0 : Int)).toNat = 0 from rfl, show 0 * 3 = 0 from rfl, Addr.add_zero'] at hx171_0 hx171_1 hx171_2)
               replace hx171_0 := bc_ HB.out hx171_0
               replace hx171_1 := bc_ HB.out hx171_1
               replace hx171_2 := bc_ HB.out hx171_2
               have HR171_2 := mkA hi171_2
               have HC171_2 := mkA hl171_2
               clear hi171_2 hl171_2
               replace p171 := eq_true p171
               replace q171 := eq_true q171
               have p172 : 0 ≤ (0 : Int) := (by omega)
               have q172 : 0 < (l0.length : Int) := of_decide_eq_true (by first | (with_reducible assumption) | assumption)
               obtain ⟨ad172, A172_2, c172_2, e172, hx172_0, hx172_1, hx172_2, hl172_2, hi172_2⟩ := at_T29 HR0.out 0 p172 q172
               have hw172_2 := hx172_2
               (try simp only [show ((0 : Int)).toNat = 0 from rfl, show 0 * 3 = 0 from rfl, Addr.add_zero'] at hw172_2)
               have hw172_1 := hx172_1
               (try simp only [show ((0 : Int)).toNat = 0 from rfl, show 0 * 3 = 0 from rfl, Addr.add_zero'] at hw172_1)
               have hw172_0 := hx172_0
               (try simp only [show ((0 : Int)).toNat = 0 from rfl, show 0 * 3 = 0 from rfl, Addr.add_zero'] at hw172_0)
               obtain rfl : ad160 = ad172 := (by injection e172)
               (simp only [Go.Proofs.YtnidibnhojedoaaX.rp_add] at hx172_0)
               (simp only [Go.Proofs.YtnidibnhojedoaaX.rp_add] at hx172_1)
               (simp only [Go.Proofs.YtnidibnhojedoaaX.rp_add] at hx172_2)
               have qi172 : (0 < l0.length) = True := eq_true (by omega)
               (try simp only [show ((0 : Int)).toNat = 0 from rfl, show 0 * 3 = 0 from rfl, Addr.add_zero'] at hx172_0 hx172_1 hx172_2)
               replace hx172_0 := bc_ HB.out hx172_0
               replace hx172_1 := bc_ HB.out hx172_1
               replace hx172_2 := bc_ HB.out hx172_2
               have HR172_2 := mkA hi172_2
               have HC172_2 := mkA hl172_2
               clear hi172_2 hl172_2
               replace p172 := eq_true p172
               replace q172 := eq_true q172
               have ea_ := Option.some.inj (hx171_2.symm.trans hx172_2)
               injection ea_ with ea_ en_ ec_
               subst ea_
               subst ec_
               clear en_
               have p173 : 0 ≤ (0 : Int) := (by omega)
               have q173 : 0 < (l1.length : Int) := of_decide_eq_true (by first | (with_reducible assumption) | assumption)
               obtain ⟨ad173, e173, hx173_0, hx173_1, hx173_2⟩ := at_T31 HR1.out 0 p173 q173
               have hw173_2 := hx173_2
               (try simp only [show ((0 : Int)).toNat = 0 from rfl, show 0 * 3 = 0 from rfl, Addr.add_zero'] at hw173_2)
               have hw173_1 := hx173_1
               (try simp only [show ((0 : Int)).toNat = 0 from rfl, show 0 * 3 = 0 from rfl, Addr.add_zero'] at hw173_1)
               have hw173_0 := hx173_0
               (try simp only [show ((0 : Int)).toNat = 0 from rfl, show 0 * 3 = 0 from rfl, Addr.add_zero'] at hw173_0)
               obtain rfl : ad162 = ad173 := (by injection e173)
               (simp only [Go.Proofs.YtnidibnhojedoaaX.rp_add] at hx173_0)
               (simp only [Go.Proofs.YtnidibnhojedoaaX.rp_add] at hx173_1)
               (simp only [Go.Proofs.YtnidibnhojedoaaX.rp_add] at hx173_2)
               have qi173 : (0 < l1.length) = True := eq_true (by omega)
               (try simp only [show ((0 : Int)).toNat = 0 from rfl, show 0 * 3 = 0 from rfl, Addr.add_zero'] at hx173_0 hx173_1 hx173_2)
               replace hx173_0 := bc_ HB.out hx173_0
               replace hx173_1 := bc_ HB.out hx173_1
               replace hx173_2 := bc_ HB.out hx173_2
               replace p173 := eq_true p173
               replace q173 := eq_true q173
               have p174 : 0 ≤ (0 : Int) := (by omega)
               have q174 : 0 < (l0.length : Int) := of_decide_eq_true (by first | (with_reducible assumption) | assumption)
               obtain ⟨ad174, A174_2, c174_2, e174, hx174_0, hx174_1, hx174_2, hl174_2, hi174_2⟩ := at_T29 HR0.out 0 p174 q174
               have hw174_2 := hx174_2
               (try simp only [show ((0 : Int)).toNat = 0 from rfl, show 0 * 3 = 0 from rfl, Addr.add_zero'] at hw174_2)
               have hw174_1 := hx174_1
               (try simp only [show ((0 : Int)).toNat = 0 from rfl, show 0 * 3 = 0 from rfl, Addr.add_zero'] at hw174_1)
               have hw174_0 := hx174_0
               (try simp only [show ((0 : Int)).toNat = 0 from rfl, show 0 * 3 = 0 from rfl, Addr.add_zero'] at hw174_0)
               obtain rfl : ad160 = ad174 := (by injection e174)
               (simp only [Go.Proofs.YtnidibnhojedoaaX.rp_add] at hx174_0)
               (simp only [Go.Proofs.YtnidibnhojedoaaX.rp_add] at hx174_1)
               (simp only [Go.Proofs.YtnidibnhojedoaaX.rp_add] at hx174_2)
               have qi174 : (0 < l0.length) = True := eq_true (by omega)
               (try simp only [show ((0 : Int)).toNat = 0 from rfl, show 0 * 3 = 0 from rfl, Addr.add_zero'] at hx174_0 hx174_1 hx174_2)
               replace hx174_0 := bc_ HB.out hx174_0
               replace hx174_1 := bc_ HB.out hx174_1
               replace hx174_2 := bc_ HB.out hx174_2
               have HR174_2 := mkA hi174_2
               have HC174_2 := mkA hl174_2
               clear hi174_2 hl174_2
               replace p174 := eq_true p174
               replace q174 := eq_true q174
               have ea_ := Option.some.inj (hx171_2.symm.trans hx174_2)
               injection ea_ with ea_ en_ ec_
               subst ea_
               subst ec_
               clear en_
               refine start_ (n := 55) (S := fun w' => w'.cell? ad160 = some (.int .i64 ((rd_T29 l0 0).f0)) ∧ w'.cell? ⟨ad160.block, ad160.off + 1, none⟩ = some (.int .i64 ((rd_T29 l0 0).f1)) ∧ w'.cell? ⟨ad160.block, ad160.off + 2, none⟩ = some (.slice A160_2 ((rd_T29 l0 0).f2).length c160_2) ∧ w'.cell? ad162 = some (.int .i64 ((rd_T31 l1 0).f0)) ∧ w'.cell? ⟨ad162.block, ad162.off + 1, none⟩ = some (.int .i64 ((rd_T31 l1 0).f1)) ∧ w'.cell? ⟨ad162.block, ad162.off + 2, none⟩ = some (.int .i64 ((rd_T31 l1 0).f2)) ∧ w'.cell? ad162 = some (.int .i64 ((rd_T31 l1 0).f0)) ∧ w'.cell? ⟨ad162.block, ad162.off + 1, none⟩ = some (.int .i64 ((rd_T31 l1 0).f1)) ∧ w'.cell? ⟨ad162.block, ad162.off + 2, none⟩ = some (.int .i64 ((rd_T31 l1 0).f2)) ∧ w'.cell? ad160 = some (.int .i64 ((rd_T29 l0 0).f0)) ∧ w'.cell? ⟨ad160.block, ad160.off + 1, none⟩ = some (.int .i64 ((rd_T29 l0 0).f1)) ∧ w'.cell? ⟨ad160.block, ad160.off + 2, none⟩ = some (.slice A171_2 ((rd_T29 l0 0).f2).length c171_2) ∧ w'.cell? ad160 = some (.int .i64 ((rd_T29 l0 0).f0)) ∧ w'.cell? ⟨ad160.block, ad160.off + 1, none⟩ = some (.int .i64 ((rd_T29 l0 0).f1)) ∧ w'.cell? ⟨ad160.block, ad160.off + 2, none⟩ = some (.slice A171_2 ((rd_T29 l0 0).f2).length c171_2) ∧ w'.cell? ad162 = some (.int .i64 ((rd_T31 l1 0).f0)) ∧ w'.cell? ⟨ad162.block, ad162.off + 1, none⟩ = some (.int .i64 ((rd_T31 l1 0).f1)) ∧ w'.cell? ⟨ad162.block, ad162.off + 2, none⟩ = some (.int .i64 ((rd_T31 l1 0).f2)) ∧ w'.cell? ad160 = some (.int .i64 ((rd_T29 l0 0).f0)) ∧ w'.cell? ⟨ad160.block, ad160.off + 1, none⟩ = some (.int .i64 ((rd_T29 l0 0).f1)) ∧ w'.cell? ⟨ad160.block, ad160.off + 2, none⟩ = some (.slice A171_2 ((rd_T29 l0 0).f2).length c171_2)) (ds := []) spec_l18Ok.d0 (by kernel_rfl) rfl rfl ⟨(bc_ HB.out hw160_0 :), (bc_ HB.out hw160_1 :), (bc_ HB.out hw160_2 :), (bc_ HB.out hw162_0 :), (bc_ HB.out hw162_1 :), (bc_ HB.out hw162_2 :), (bc_ HB.out hw164_0 :), (bc_ HB.out hw164_1 :), (bc_ HB.out hw164_2 :), (bc_ HB.out hw171_0 :), (bc_ HB.out hw171_1 :), (bc_ HB.out hw171_2 :), (bc_ HB.out hw172_0 :), (bc_ HB.out hw172_1 :), (bc_ HB.out hw172_2 :), (bc_ HB.out hw173_0 :), (bc_ HB.out hw173_1 :), (bc_ HB.out hw173_2 :), (bc_ HB.out hw174_0 :), (bc_ HB.out hw174_1 :), (bc_ HB.out hw174_2 :)⟩ (fun hHeld => ?_); refine with_tabW spec_l18Ok.tab1 spec_l18Ok.bits1 (fun HT_ HW_ => ?_)
               generalize w.drew = w23 at HB HR160_2 HR171_2 HR172_2 HR174_2 hx160_0 hx160_1 hx160_2 hx162_0 hx162_1 hx162_2 hx164_0 hx164_1 hx164_2 hx171_0 hx171_1 hx171_2 hx172_0 hx172_1 hx172_2 hx173_0 hx173_1 hx173_2 hx174_0 hx174_1 hx174_2 hHeld ⊢
               refine p1_ HT_.out 0 5 spec_l18Ok.d1 ?_
               refine p1_ HT_.out 1 6 spec_l18Ok.d2 ?_
               refine take_ (i := 2) (N := some 7) (v := ?_) (a' := ?_) spec_l18Ok.d3 rfl rfl (take_ofW HT_.out HW_.out (by kernel_rfl)) (fun _ _ _ h => h) (Or.inl ⟨by rfl, ?_⟩) hHeld ?_ ?_
               rotate_left
               · rintro w' ⟨s0, s1, s2, s3, s4, s5, s6, s7, s8, s9, s10, s11, s12, s13, s14, s15, s16, s17, s18, s19, s20⟩
                 go_simp
                 with_reducible rfl
               rotate_left
               · simp only [Act.put, sA, sB, sC, i64_w, i32_w]
                 rfl
               refine one_ (i := 3) (N := some 8) spec_l18Ok.d4 rfl rfl (one_of HT_.out (by kernel_rfl)) (by decide) (fun K hK => ?_)
               refine goes_ Try.func77 (by kernel_rfl) rfl #[.agg #[.int .i64 ((rd_T29 l0 0).f0), .int .i64 ((rd_T29 l0 0).f1), .slice A160_2 ((rd_T29 l0 0).f2).length c160_2]] (by rfl) rfl rfl (by (try simp only [List.map_toArray, List.map_cons, List.map_nil]); first | done | rfl | (simp only [List.length_drop, List.length_take]; rfl)) ?_
               with_reducible refine (spec_ValidTiling.calls k ((rd_T29 l0 0).f0) ((rd_T29 l0 0).f1) _ _ ((rd_T29 l0 0).f2) true _ ?side1 ?side2 A4.out).mono ?_
               (case side1 => exact cb_ HR160_2.out HB.out)
               (case side2 => exact HC160_2.out)
               rintro e w24 ⟨rfl, hb⟩
               refine ⟨_, rfl, ?_⟩
               have n0_ := mkA (below_step (bs0_ HB.out) hb)
               clear HB
               have HB := n0_
               clear n0_
               (try clear hb)
               (try clear hb2)
               (try clear hk)
               (try clear hi)
               refine hK.out _ _ ⟨(bc_ HB.out hw160_0 :), (bc_ HB.out hw160_1 :), (bc_ HB.out hw160_2 :), (bc_ HB.out hw162_0 :), (bc_ HB.out hw162_1 :), (bc_ HB.out hw162_2 :), (bc_ HB.out hw164_0 :), (bc_ HB.out hw164_1 :), (bc_ HB.out hw164_2 :), (bc_ HB.out hw171_0 :), (bc_ HB.out hw171_1 :), (bc_ HB.out hw171_2 :), (bc_ HB.out hw172_0 :), (bc_ HB.out hw172_1 :), (bc_ HB.out hw172_2 :), (bc_ HB.out hw173_0 :), (bc_ HB.out hw173_1 :), (bc_ HB.out hw173_2 :), (bc_ HB.out hw174_0 :), (bc_ HB.out hw174_1 :), (bc_ HB.out hw174_2 :)⟩ (fun hHeld => ?_)
               clear hK K
               refine norm_ (a' := ?_) ?_ ?_
               rotate_left
               · show Act.put _ (some 8) _ = _
                 simp only [Act.put, sA, sB, sC, i64_w, i32_w]
                 rfl
               refine p1_ HT_.out 4 9 spec_l18Ok.d5 ?_
               refine p1_ HT_.out 5 10 spec_l18Ok.d6 ?_
               refine p1_ HT_.out 6 11 spec_l18Ok.d7 ?_
               refine p1_ HT_.out 7 12 spec_l18Ok.d8 ?_
               refine take_ (i := 8) (N := some 13) (v := ?_) (a' := ?_) spec_l18Ok.d9 rfl rfl (take_ofW HT_.out HW_.out (by kernel_rfl)) (fun _ _ _ h => h) (Or.inl ⟨by rfl, ?_⟩) hHeld ?_ ?_
               rotate_left
               · rintro w' ⟨s0, s1, s2, s3, s4, s5, s6, s7, s8, s9, s10, s11, s12, s13, s14, s15, s16, s17, s18, s19, s20⟩
                 go_simp
                 with_reducible rfl
               rotate_left
               · simp only [Act.put, sA, sB, sC, i64_w, i32_w]
                 rfl
               refine one_ (i := 9) (N := some 14) spec_l18Ok.d10 rfl rfl (one_of HT_.out (by kernel_rfl)) (by decide) (fun K hK => ?_)
               refine goes_ Try.func83 (by kernel_rfl) rfl #[.int .i64 ((rd_T31 l1 0).f0)] (by rfl) rfl rfl (by (try simp only [List.map_toArray, List.map_cons, List.map_nil]); first | done | rfl | (simp only [List.length_drop, List.length_take]; rfl)) ?_
               with_reducible refine (spec_l02Turn.calls ((rd_T31 l1 0).f0) true _ A7.out).mono ?_
               rintro e w' ⟨rfl, ⟨nd, rfl⟩⟩
               refine ⟨_, rfl, ?_⟩
               refine hK.out _ _ ⟨(bc_ HB.out hw160_0 :), (bc_ HB.out hw160_1 :), (bc_ HB.out hw160_2 :), (bc_ HB.out hw162_0 :), (bc_ HB.out hw162_1 :), (bc_ HB.out hw162_2 :), (bc_ HB.out hw164_0 :), (bc_ HB.out hw164_1 :), (bc_ HB.out hw164_2 :), (bc_ HB.out hw171_0 :), (bc_ HB.out hw171_1 :), (bc_ HB.out hw171_2 :), (bc_ HB.out hw172_0 :), (bc_ HB.out hw172_1 :), (bc_ HB.out hw172_2 :), (bc_ HB.out hw173_0 :), (bc_ HB.out hw173_1 :), (bc_ HB.out hw173_2 :), (bc_ HB.out hw174_0 :), (bc_ HB.out hw174_1 :), (bc_ HB.out hw174_2 :)⟩ (fun hHeld => ?_)
               clear hK K
               refine norm_ (a' := ?_) ?_ ?_
               rotate_left
               · show Act.put _ (some 14) _ = _
                 simp only [Act.put, sA, sB, sC, i64_w, i32_w]
                 rfl
               refine p1_ HT_.out 10 15 spec_l18Ok.d11 ?_
               refine p1_ HT_.out 11 16 spec_l18Ok.d12 ?_
               refine p1_ HT_.out 12 17 spec_l18Ok.d13 ?_
               refine p1_ HT_.out 13 18 spec_l18Ok.d14 ?_
               refine p1_ HT_.out 14 19 spec_l18Ok.d15 ?_
               refine take_ (i := 15) (N := some 20) (v := ?_) (a' := ?_) spec_l18Ok.d16 rfl rfl (take_ofW HT_.out HW_.out (by kernel_rfl)) (fun _ _ _ h => h) (Or.inl ⟨by rfl, ?_⟩) hHeld ?_ ?_
               rotate_left
               · rintro w' ⟨s0, s1, s2, s3, s4, s5, s6, s7, s8, s9, s10, s11, s12, s13, s14, s15, s16, s17, s18, s19, s20⟩
                 go_simp
                 with_reducible rfl
               rotate_left
               · simp only [Act.put, sA, sB, sC, i64_w, i32_w]
                 rfl
               refine p1_ HT_.out 16 21 spec_l18Ok.d17 ?_
               refine p1_ HT_.out 17 22 spec_l18Ok.d18 ?_
               refine p1_ HT_.out 18 23 spec_l18Ok.d19 ?_
               refine p1_ HT_.out 19 24 spec_l18Ok.d20 ?_
               refine p1_ HT_.out 20 25 spec_l18Ok.d21 ?_
               refine p1_ HT_.out 21 26 spec_l18Ok.d22 ?_
               refine p1_ HT_.out 23 28 spec_l18Ok.d59 ?_
               refine p1_ HT_.out 24 29 spec_l18Ok.d60 ?_
               refine p1_ HT_.out 25 30 spec_l18Ok.d61 ?_
               refine take_ (i := 22) (N := some 27) (v := ?_) (a' := ?_) spec_l18Ok.d26 rfl rfl (take_ofW HT_.out HW_.out (by kernel_rfl)) (fun _ _ _ h => h) (Or.inl ⟨by rfl, ?_⟩) hHeld ?_ ?_
               rotate_left
               · rintro w' ⟨s0, s1, s2, s3, s4, s5, s6, s7, s8, s9, s10, s11, s12, s13, s14, s15, s16, s17, s18, s19, s20⟩
                 go_simp
                 with_reducible rfl
               rotate_left
               · simp only [Act.put, sA, sB, sC, i64_w, i32_w]
                 rfl
               refine take_ (i := 26) (N := some 31) (v := ?_) (a' := ?_) spec_l18Ok.d27 rfl rfl (take_ofW HT_.out HW_.out (by kernel_rfl)) (fun _ _ _ h => h) (Or.inl ⟨by rfl, ?_⟩) hHeld ?_ ?_
               rotate_left
               · rintro w' ⟨s0, s1, s2, s3, s4, s5, s6, s7, s8, s9, s10, s11, s12, s13, s14, s15, s16, s17, s18, s19, s20⟩
                 go_simp
                 with_reducible rfl
               rotate_left
               · simp only [Act.put, sA, sB, sC, i64_w, i32_w]
                 rfl
               refine p1_ HT_.out 27 32 spec_l18Ok.d28 ?_
               refine p1_ HT_.out 28 33 spec_l18Ok.d29 ?_
               refine p1_ HT_.out 29 34 spec_l18Ok.d30 ?_
               refine p1_ HT_.out 30 35 spec_l18Ok.d31 ?_
               refine p1_ HT_.out 31 36 spec_l18Ok.d32 ?_
               refine p1_ HT_.out 32 37 spec_l18Ok.d33 ?_
               refine p1_ HT_.out 33 38 spec_l18Ok.d34 ?_
               refine p1_ HT_.out 35 40 spec_l18Ok.d35 ?_
               refine p1_ HT_.out 36 41 spec_l18Ok.d36 ?_
               refine p1_ HT_.out 37 42 spec_l18Ok.d37 ?_
               refine take_ (i := 34) (N := some 39) (v := ?_) (a' := ?_) spec_l18Ok.d38 rfl rfl (take_ofW HT_.out HW_.out (by kernel_rfl)) (fun _ _ _ h => h) (Or.inl ⟨by rfl, ?_⟩) hHeld ?_ ?_
               rotate_left
               · rintro w' ⟨s0, s1, s2, s3, s4, s5, s6, s7, s8, s9, s10, s11, s12, s13, s14, s15, s16, s17, s18, s19, s20⟩
                 go_simp
                 with_reducible rfl
               rotate_left
               · simp only [Act.put, sA, sB, sC, i64_w, i32_w]
                 rfl
               refine take_ (i := 38) (N := some 43) (v := ?_) (a' := ?_) spec_l18Ok.d39 rfl rfl (take_ofW HT_.out HW_.out (by kernel_rfl)) (fun _ _ _ h => h) (Or.inl ⟨by rfl, ?_⟩) hHeld ?_ ?_
               rotate_left
               · rintro w' ⟨s0, s1, s2, s3, s4, s5, s6, s7, s8, s9, s10, s11, s12, s13, s14, s15, s16, s17, s18, s19, s20⟩
                 go_simp
                 with_reducible rfl
               rotate_left
               · simp only [Act.put, sA, sB, sC, i64_w, i32_w]
                 rfl
               refine p1_ HT_.out 39 44 spec_l18Ok.d40 ?_
               refine one_ (i := 40) (N := some 45) spec_l18Ok.d41 rfl rfl (one_of HT_.out (by kernel_rfl)) (by decide) (fun K hK => ?_)
               refine goes_ Try.func57 (by kernel_rfl) rfl #[.int .i64 ((rd_T31 l1 0).f1), .int .i64 0, .int .i64 (wrap64 (((rd_T29 l0 0).f0) - 1))] (by rfl) rfl rfl (by (try simp only [List.map_toArray, List.map_cons, List.map_nil]); first | done | rfl | (simp only [List.length_drop, List.length_take]; rfl)) ?_
               with_reducible refine (spec_l00In.calls ((rd_T31 l1 0).f1) 0 (wrap64 (((rd_T29 l0 0).f0) - 1)) false _ A18.out).mono ?_
               rintro e w' ⟨rfl, ⟨nd, rfl⟩⟩
               refine ⟨_, rfl, ?_⟩
               refine hK.out _ _ ⟨(bc_ HB.out hw160_0 :), (bc_ HB.out hw160_1 :), (bc_ HB.out hw160_2 :), (bc_ HB.out hw162_0 :), (bc_ HB.out hw162_1 :), (bc_ HB.out hw162_2 :), (bc_ HB.out hw164_0 :), (bc_ HB.out hw164_1 :), (bc_ HB.out hw164_2 :), (bc_ HB.out hw171_0 :), (bc_ HB.out hw171_1 :), (bc_ HB.out hw171_2 :), (bc_ HB.out hw172_0 :), (bc_ HB.out hw172_1 :), (bc_ HB.out hw172_2 :), (bc_ HB.out hw173_0 :), (bc_ HB.out hw173_1 :), (bc_ HB.out hw173_2 :), (bc_ HB.out hw174_0 :), (bc_ HB.out hw174_1 :), (bc_ HB.out hw174_2 :)⟩ (fun hHeld => ?_)
               clear hK K
               refine norm_ (a' := ?_) ?_ ?_
               rotate_left
               · show Act.put _ (some 45) _ = _
                 simp only [Act.put, sA, sB, sC, i64_w, i32_w]
                 rfl
               refine p1_ HT_.out 41 46 spec_l18Ok.d42 ?_
               refine p1_ HT_.out 42 47 spec_l18Ok.d43 ?_
               refine p0_ HT_.out 43 48 spec_l18Ok.d44 ?_
               refine p0_ HT_.out 44 49 spec_l18Ok.d45 ?_
               refine p0_ HT_.out 45 50 spec_l18Ok.d46 ?_
               refine p0_ HT_.out 46 51 spec_l18Ok.d56 ?_
               refine p0_ HT_.out 47 52 spec_l18Ok.d57 ?_
               refine p0_ HT_.out 48 53 spec_l18Ok.d58 ?_
               refine p0_ HT_.out 49 54 spec_l18Ok.d50 ?_
               refine p0_ HT_.out 50 55 spec_l18Ok.d51 ?_
               refine p0_ HT_.out 51 56 spec_l18Ok.d52 ?_
               refine p0_ HT_.out 52 57 spec_l18Ok.d53 ?_
               refine p1_ HT_.out 53 58 spec_l18Ok.d54 ?_
               refine p1_ HT_.out 54 4 spec_l18Ok.d55 ?_
               refine done_ (done_of HT_.out (by kernel_rfl)) ?_
               try go_wp2
               go_ret
               exact ⟨by first | rfl | (simp [errW_none, errW_some] <;> rfl) | (simp [*, errW_none, errW_some] <;> rfl), by repeat (first | (with_reducible first | exact HB.out | apply below_alloc | apply pw_below_drewN | apply below_drew1) | exact HB.out)⟩
           · rw [if_neg c17] at H
             have c17b0 : (((rd_T29 l0 0).f0) == ((rd_T29 l0 0).f1)) = false := beq_eq_false_iff_ne.mpr c17
             have c17b1 : (((rd_T29 l0 0).f0) != ((rd_T29 l0 0).f1)) = true := bne_iff_ne.mpr c17
             obtain rfl := Option.some.inj H
             go_enter Try.func53, Try.ntmps53
             try go_wp2
             have n0_ := mkA (below_drew1 HB.out)
             clear HB
             have HB := n0_
             clear n0_
             have p160 : 0 ≤ (0 : Int) := (by omega)
             have q160 : 0 < (l0.length : Int) := of_decide_eq_true (by first | (with_reducible assumption) | assumption)
             obtain ⟨ad160, A160_2, c160_2, e160, hx160_0, hx160_1, hx160_2, hl160_2, hi160_2⟩ := at_T29 HR0.out 0 p160 q160
             have hw160_2 := hx160_2
             (try simp only [show ((0 : Int)).toNat = 0 from rfl, show 0 * 3 = 0 from rfl, Addr.add_zero'] at hw160_2)
             have hw160_1 := hx160_1
             (try simp only [show ((0 : Int)).toNat = 0 from rfl, show 0 * 3 = 0 from rfl, Addr.add_zero'] at hw160_1)
             have hw160_0 := hx160_0
             (try simp only [show ((0 : Int)).toNat = 0 from rfl, show 0 * 3 = 0 from rfl, Addr.add_zero'] at hw160_0)
             cases e160
             (simp only [Go.Proofs.YtnidibnhojedoaaX.rp_add] at hx160_0)
             (simp only [Go.Proofs.YtnidibnhojedoaaX.rp_add] at hx160_1)
             (simp only [Go.Proofs.YtnidibnhojedoaaX.rp_add] at hx160_2)
             have qi160 : (0 < l0.length) = True := eq_true (by omega)
             (try simp only [show ((0 : Int)).toNat = 0 from rfl, show 0 * 3 = 0 from rfl, Addr.add_zero'] at hx160_0 hx160_1 hx160_2)
             replace hx160_0 := bc_ HB.out hx160_0
             replace hx160_1 := bc_ HB.out hx160_1
             replace hx160_2 := bc_ HB.out hx160_2
             have HR160_2 := mkA hi160_2
             have HC160_2 := mkA hl160_2
             clear hi160_2 hl160_2
             replace p160 := eq_true p160
             replace q160 := eq_true q160
             have p162 : 0 ≤ (0 : Int) := (by omega)
             have q162 : 0 < (l1.length : Int) := of_decide_eq_true (by first | (with_reducible assumption) | assumption)
             obtain ⟨ad162, e162, hx162_0, hx162_1, hx162_2⟩ := at_T31 HR1.out 0 p162 q162
             have hw162_2 := hx162_2
             (try simp only [show ((0 : Int)).toNat = 0 from rfl, show 0 * 3 = 0 from rfl, Addr.add_zero'] at hw162_2)
             have hw162_1 := hx162_1
             (try simp only [show ((0 : Int)).toNat = 0 from rfl, show 0 * 3 = 0 from rfl, Addr.add_zero'] at hw162_1)
             have hw162_0 := hx162_0
             (try simp only [show ((0 : Int)).toNat = 0 from rfl, show 0 * 3 = 0 from rfl, Addr.add_zero'] at hw162_0)
             cases e162
             (simp only [Go.Proofs.YtnidibnhojedoaaX.rp_add] at hx162_0)
             (simp only [Go.Proofs.YtnidibnhojedoaaX.rp_add] at hx162_1)
             (simp only [Go.Proofs.YtnidibnhojedoaaX.rp_add] at hx162_2)
             have qi162 : (0 < l1.length) = True := eq_true (by omega)
             (try simp only [show ((0 : Int)).toNat = 0 from rfl, show 0 * 3 = 0 from rfl, Addr.add_zero'] at hx162_0 hx162_1 hx162_2)
             replace hx162_0 := bc_ HB.out hx162_0
             replace hx162_1 := bc_ HB.out hx162_1
             replace hx162_2 := bc_ HB.out hx162_2
             replace p162 := eq_true p162
             replace q162 := eq_true q162
             have p164 : 0 ≤ (0 : Int) := (by omega)
             have q164 : 0 < (l1.length : Int) := of_decide_eq_true (by first | (with_reducible assumption) | assumption)
             obtain ⟨ad164, e164, hx164_0, hx164_1, hx164_2⟩ := at_T31 HR1.out 0 p164 q164
             have hw164_2 := hx164_2
             (try simp only [show ((0 : Int)).toNat = 0 from rfl, show 0 * 3 = 0 from rfl, Addr.add_zero'] at hw164_2)
             have hw164_1 := hx164_1
             (try simp only [show ((0 : Int)).toNat = 0 from rfl, show 0 * 3 = 0 from rfl, Addr.add_zero'] at hw164_1)
             have hw164_0 := hx164_0
             (try simp only [show ((0 : Int)).toNat = 0 from rfl, show 0 * 3 = 0 from rfl, Addr.add_zero'] at hw164_0)
             obtain rfl : ad162 = ad164 := (by injection e164)
             (simp only [Go.Proofs.YtnidibnhojedoaaX.rp_add] at hx164_0)
             (simp only [Go.Proofs.YtnidibnhojedoaaX.rp_add] at hx164_1)
             (simp only [Go.Proofs.YtnidibnhojedoaaX.rp_add] at hx164_2)
             have qi164 : (0 < l1.length) = True := eq_true (by omega)
             (try simp only [show ((0 : Int)).toNat = 0 from rfl, show 0 * 3 = 0 from rfl, Addr.add_zero'] at hx164_0 hx164_1 hx164_2)
             replace hx164_0 := bc_ HB.out hx164_0
             replace hx164_1 := bc_ HB.out hx164_1
             replace hx164_2 := bc_ HB.out hx164_2
             replace p164 := eq_true p164
             replace q164 := eq_true q164
             have p171 : 0 ≤ (0 : Int) := (by omega)
             have q171 : 0 < (l0.length : Int) := of_decide_eq_true (by first | (with_reducible assumption) | assumption)
             obtain ⟨ad171, A171_2, c171_2, e171, hx171_0, hx171_1, hx171_2, hl171_2, hi171_2⟩ := at_T29 HR0.out 0 p171 q171
             have hw171_2 := hx171_2
             (try simp only [show ((0 : Int)).toNat = 0 from rfl, show 0 * 3 = 0 from rfl, Addr.add_zero'] at hw171_2)
             have hw171_1 := hx171_1
             (try simp only [show ((0 : Int)).toNat = 0 from rfl, show 0 * 3 = 0 from rfl, Addr.add_zero'] at hw171_1)
             have hw171_0 := hx171_0
             (try simp only [show ((0 : Int)).toNat = 0 from rfl, show 0 * 3 = 0 from rfl, Addr.add_zero'] at hw171_0)
             obtain rfl : ad160 = ad171 := (by injection e171)
             (simp only [Go.Proofs.YtnidibnhojedoaaX.rp_add] at hx171_0)
             (simp only [Go.Proofs.YtnidibnhojedoaaX.rp_add] at hx171_1)
             (simp only [Go.Proofs.YtnidibnhojedoaaX.rp_add] at hx171_2)
             have qi171 : (0 < l0.length) = True := eq_true (by omega)
             (try simp only [show ((0 : Int)).toNat = 0 from rfl, show 0 * 3 = 0 from rfl, Addr.add_zero'] at hx171_0 hx171_1 hx171_2)
             replace hx171_0 := bc_ HB.out hx171_0
             replace hx171_1 := bc_ HB.out hx171_1
             replace hx171_2 := bc_ HB.out hx171_2
             have HR171_2 := mkA hi171_2
             have HC171_2 := mkA hl171_2
             clear hi171_2 hl171_2
             replace p171 := eq_true p171
             replace q171 := eq_true q171
             have p172 : 0 ≤ (0 : Int) := (by omega)
             have q172 : 0 < (l0.length : Int) := of_decide_eq_true (by first | (with_reducible assumption) | assumption)
             obtain ⟨ad172, A172_2, c172_2, e172, hx172_0, hx172_1, hx172_2, hl172_2, hi172_2⟩ := at_T29 HR0.out 0 p172 q172
             have hw172_2 := hx172_2
             (try simp only [show ((0 : Int)).toNat = 0 from rfl, show 0 * 3 = 0 from rfl, Addr.add_zero'] at hw172_2)
             have hw172_1 := hx172_1
             (try simp only [show ((0 : Int)).toNat = 0 from rfl, show 0 * 3 = 0 from rfl, Addr.add_zero'] at hw172_1)
             have hw172_0 := hx172_0
             (try simp only [show ((0 : Int)).toNat = 0 from rfl, show 0 * 3 = 0 from rfl, Addr.add_zero'] at hw172_0)
             obtain rfl : ad160 = ad172 := (by injection e172)
             (simp only [Go.Proofs.YtnidibnhojedoaaX.rp_add] at hx172_0)
             (simp only [Go.Proofs.YtnidibnhojedoaaX.rp_add] at hx172_1)
             (simp only [Go.Proofs.YtnidibnhojedoaaX.rp_add] at hx172_2)
             have qi172 : (0 < l0.length) = True := eq_true (by omega)
             (try simp only [show ((0 : Int)).toNat = 0 from rfl, show 0 * 3 = 0 from rfl, Addr.add_zero'] at hx172_0 hx172_1 hx172_2)
             replace hx172_0 := bc_ HB.out hx172_0
             replace hx172_1 := bc_ HB.out hx172_1
             replace hx172_2 := bc_ HB.out hx172_2
             have HR172_2 := mkA hi172_2
             have HC172_2 := mkA hl172_2
             clear hi172_2 hl172_2
             replace p172 := eq_true p172
             replace q172 := eq_true q172
             have ea_ := Option.some.inj (hx171_2.symm.trans hx172_2)
             injection ea_ with ea_ en_ ec_
             subst ea_
             subst ec_
             clear en_
             refine start_ (n := 55) (S := fun w' => w'.cell? ad160 = some (.int .i64 ((rd_T29 l0 0).f0)) ∧ w'.cell? ⟨ad160.block, ad160.off + 1, none⟩ = some (.int .i64 ((rd_T29 l0 0).f1)) ∧ w'.cell? ⟨ad160.block, ad160.off + 2, none⟩ = some (.slice A160_2 ((rd_T29 l0 0).f2).length c160_2) ∧ w'.cell? ad162 = some (.int .i64 ((rd_T31 l1 0).f0)) ∧ w'.cell? ⟨ad162.block, ad162.off + 1, none⟩ = some (.int .i64 ((rd_T31 l1 0).f1)) ∧ w'.cell? ⟨ad162.block, ad162.off + 2, none⟩ = some (.int .i64 ((rd_T31 l1 0).f2)) ∧ w'.cell? ad162 = some (.int .i64 ((rd_T31 l1 0).f0)) ∧ w'.cell? ⟨ad162.block, ad162.off + 1, none⟩ = some (.int .i64 ((rd_T31 l1 0).f1)) ∧ w'.cell? ⟨ad162.block, ad162.off + 2, none⟩ = some (.int .i64 ((rd_T31 l1 0).f2)) ∧ w'.cell? ad160 = some (.int .i64 ((rd_T29 l0 0).f0)) ∧ w'.cell? ⟨ad160.block, ad160.off + 1, none⟩ = some (.int .i64 ((rd_T29 l0 0).f1)) ∧ w'.cell? ⟨ad160.block, ad160.off + 2, none⟩ = some (.slice A171_2 ((rd_T29 l0 0).f2).length c171_2) ∧ w'.cell? ad160 = some (.int .i64 ((rd_T29 l0 0).f0)) ∧ w'.cell? ⟨ad160.block, ad160.off + 1, none⟩ = some (.int .i64 ((rd_T29 l0 0).f1)) ∧ w'.cell? ⟨ad160.block, ad160.off + 2, none⟩ = some (.slice A171_2 ((rd_T29 l0 0).f2).length c171_2)) (ds := []) spec_l18Ok.d0 (by kernel_rfl) rfl rfl ⟨(bc_ HB.out hw160_0 :), (bc_ HB.out hw160_1 :), (bc_ HB.out hw160_2 :), (bc_ HB.out hw162_0 :), (bc_ HB.out hw162_1 :), (bc_ HB.out hw162_2 :), (bc_ HB.out hw164_0 :), (bc_ HB.out hw164_1 :), (bc_ HB.out hw164_2 :), (bc_ HB.out hw171_0 :), (bc_ HB.out hw171_1 :), (bc_ HB.out hw171_2 :), (bc_ HB.out hw172_0 :), (bc_ HB.out hw172_1 :), (bc_ HB.out hw172_2 :)⟩ (fun hHeld => ?_); refine with_tabW spec_l18Ok.tab1 spec_l18Ok.bits1 (fun HT_ HW_ => ?_)
             generalize w.drew = w25 at HB HR160_2 HR171_2 HR172_2 hx160_0 hx160_1 hx160_2 hx162_0 hx162_1 hx162_2 hx164_0 hx164_1 hx164_2 hx171_0 hx171_1 hx171_2 hx172_0 hx172_1 hx172_2 hHeld ⊢
             refine p1_ HT_.out 0 5 spec_l18Ok.d1 ?_
             refine p1_ HT_.out 1 6 spec_l18Ok.d2 ?_
             refine take_ (i := 2) (N := some 7) (v := ?_) (a' := ?_) spec_l18Ok.d3 rfl rfl (take_ofW HT_.out HW_.out (by kernel_rfl)) (fun _ _ _ h => h) (Or.inl ⟨by rfl, ?_⟩) hHeld ?_ ?_
             rotate_left
             · rintro w' ⟨s0, s1, s2, s3, s4, s5, s6, s7, s8, s9, s10, s11, s12, s13, s14⟩
               go_simp
               with_reducible rfl
             rotate_left
             · simp only [Act.put, sA, sB, sC, i64_w, i32_w]
               rfl
             refine one_ (i := 3) (N := some 8) spec_l18Ok.d4 rfl rfl (one_of HT_.out (by kernel_rfl)) (by decide) (fun K hK => ?_)
             refine goes_ Try.func77 (by kernel_rfl) rfl #[.agg #[.int .i64 ((rd_T29 l0 0).f0), .int .i64 ((rd_T29 l0 0).f1), .slice A160_2 ((rd_T29 l0 0).f2).length c160_2]] (by rfl) rfl rfl (by (try simp only [List.map_toArray, List.map_cons, List.map_nil]); first | done | rfl | (simp only [List.length_drop, List.length_take]; rfl)) ?_
             with_reducible refine (spec_ValidTiling.calls k ((rd_T29 l0 0).f0) ((rd_T29 l0 0).f1) _ _ ((rd_T29 l0 0).f2) true _ ?side1 ?side2 A4.out).mono ?_
             (case side1 => exact cb_ HR160_2.out HB.out)
             (case side2 => exact HC160_2.out)
             rintro e w26 ⟨rfl, hb⟩
             refine ⟨_, rfl, ?_⟩
             have n0_ := mkA (below_step (bs0_ HB.out) hb)
             clear HB
             have HB := n0_
             clear n0_
             (try clear hb)
             (try clear hb2)
             (try clear hk)
             (try clear hi)
             refine hK.out _ _ ⟨(bc_ HB.out hw160_0 :), (bc_ HB.out hw160_1 :), (bc_ HB.out hw160_2 :), (bc_ HB.out hw162_0 :), (bc_ HB.out hw162_1 :), (bc_ HB.out hw162_2 :), (bc_ HB.out hw164_0 :), (bc_ HB.out hw164_1 :), (bc_ HB.out hw164_2 :), (bc_ HB.out hw171_0 :), (bc_ HB.out hw171_1 :), (bc_ HB.out hw171_2 :), (bc_ HB.out hw172_0 :), (bc_ HB.out hw172_1 :), (bc_ HB.out hw172_2 :)⟩ (fun hHeld => ?_)
             clear hK K
             refine norm_ (a' := ?_) ?_ ?_
             rotate_left
             · show Act.put _ (some 8) _ = _
               simp only [Act.put, sA, sB, sC, i64_w, i32_w]
               rfl
             refine p1_ HT_.out 4 9 spec_l18Ok.d5 ?_
             refine p1_ HT_.out 5 10 spec_l18Ok.d6 ?_
             refine p1_ HT_.out 6 11 spec_l18Ok.d7 ?_
             refine p1_ HT_.out 7 12 spec_l18Ok.d8 ?_
             refine take_ (i := 8) (N := some 13) (v := ?_) (a' := ?_) spec_l18Ok.d9 rfl rfl (take_ofW HT_.out HW_.out (by kernel_rfl)) (fun _ _ _ h => h) (Or.inl ⟨by rfl, ?_⟩) hHeld ?_ ?_
             rotate_left
             · rintro w' ⟨s0, s1, s2, s3, s4, s5, s6, s7, s8, s9, s10, s11, s12, s13, s14⟩
               go_simp
               with_reducible rfl
             rotate_left
             · simp only [Act.put, sA, sB, sC, i64_w, i32_w]
               rfl
             refine one_ (i := 9) (N := some 14) spec_l18Ok.d10 rfl rfl (one_of HT_.out (by kernel_rfl)) (by decide) (fun K hK => ?_)
             refine goes_ Try.func83 (by kernel_rfl) rfl #[.int .i64 ((rd_T31 l1 0).f0)] (by rfl) rfl rfl (by (try simp only [List.map_toArray, List.map_cons, List.map_nil]); first | done | rfl | (simp only [List.length_drop, List.length_take]; rfl)) ?_
             with_reducible refine (spec_l02Turn.calls ((rd_T31 l1 0).f0) true _ A7.out).mono ?_
             rintro e w' ⟨rfl, ⟨nd, rfl⟩⟩
             refine ⟨_, rfl, ?_⟩
             refine hK.out _ _ ⟨(bc_ HB.out hw160_0 :), (bc_ HB.out hw160_1 :), (bc_ HB.out hw160_2 :), (bc_ HB.out hw162_0 :), (bc_ HB.out hw162_1 :), (bc_ HB.out hw162_2 :), (bc_ HB.out hw164_0 :), (bc_ HB.out hw164_1 :), (bc_ HB.out hw164_2 :), (bc_ HB.out hw171_0 :), (bc_ HB.out hw171_1 :), (bc_ HB.out hw171_2 :), (bc_ HB.out hw172_0 :), (bc_ HB.out hw172_1 :), (bc_ HB.out hw172_2 :)⟩ (fun hHeld => ?_)
             clear hK K
             refine norm_ (a' := ?_) ?_ ?_
             rotate_left
             · show Act.put _ (some 14) _ = _
               simp only [Act.put, sA, sB, sC, i64_w, i32_w]
               rfl
             refine p1_ HT_.out 10 15 spec_l18Ok.d11 ?_
             refine p1_ HT_.out 11 16 spec_l18Ok.d12 ?_
             refine p1_ HT_.out 12 17 spec_l18Ok.d13 ?_
             refine p1_ HT_.out 13 18 spec_l18Ok.d14 ?_
             refine p1_ HT_.out 14 19 spec_l18Ok.d15 ?_
             refine take_ (i := 15) (N := some 20) (v := ?_) (a' := ?_) spec_l18Ok.d16 rfl rfl (take_ofW HT_.out HW_.out (by kernel_rfl)) (fun _ _ _ h => h) (Or.inl ⟨by rfl, ?_⟩) hHeld ?_ ?_
             rotate_left
             · rintro w' ⟨s0, s1, s2, s3, s4, s5, s6, s7, s8, s9, s10, s11, s12, s13, s14⟩
               go_simp
               with_reducible rfl
             rotate_left
             · simp only [Act.put, sA, sB, sC, i64_w, i32_w]
               rfl
             refine p1_ HT_.out 16 21 spec_l18Ok.d17 ?_
             refine p1_ HT_.out 17 22 spec_l18Ok.d18 ?_
             refine p1_ HT_.out 18 23 spec_l18Ok.d19 ?_
             refine p1_ HT_.out 19 24 spec_l18Ok.d20 ?_
             refine p1_ HT_.out 20 25 spec_l18Ok.d21 ?_
             refine p1_ HT_.out 21 26 spec_l18Ok.d22 ?_
             refine p1_ HT_.out 23 28 spec_l18Ok.d59 ?_
             refine p1_ HT_.out 24 29 spec_l18Ok.d60 ?_
             refine p1_ HT_.out 25 30 spec_l18Ok.d61 ?_
             refine take_ (i := 22) (N := some 27) (v := ?_) (a' := ?_) spec_l18Ok.d26 rfl rfl (take_ofW HT_.out HW_.out (by kernel_rfl)) (fun _ _ _ h => h) (Or.inl ⟨by rfl, ?_⟩) hHeld ?_ ?_
             rotate_left
             · rintro w' ⟨s0, s1, s2, s3, s4, s5, s6, s7, s8, s9, s10, s11, s12, s13, s14⟩
               go_simp
               with_reducible rfl
             rotate_left
             · simp only [Act.put, sA, sB, sC, i64_w, i32_w]
               rfl
             refine take_ (i := 26) (N := some 31) (v := ?_) (a' := ?_) spec_l18Ok.d27 rfl rfl (take_ofW HT_.out HW_.out (by kernel_rfl)) (fun _ _ _ h => h) (Or.inl ⟨by rfl, ?_⟩) hHeld ?_ ?_
             rotate_left
             · rintro w' ⟨s0, s1, s2, s3, s4, s5, s6, s7, s8, s9, s10, s11, s12, s13, s14⟩
               go_simp
               with_reducible rfl
             rotate_left
             · simp only [Act.put, sA, sB, sC, i64_w, i32_w]
               rfl
             refine p1_ HT_.out 27 32 spec_l18Ok.d28 ?_
             refine p1_ HT_.out 28 33 spec_l18Ok.d29 ?_
             refine p1_ HT_.out 29 34 spec_l18Ok.d30 ?_
             refine p1_ HT_.out 30 35 spec_l18Ok.d31 ?_
             refine p0_ HT_.out 31 36 spec_l18Ok.d32 ?_
             refine p0_ HT_.out 32 37 spec_l18Ok.d33 ?_
             refine p0_ HT_.out 33 38 spec_l18Ok.d34 ?_
             refine p0_ HT_.out 34 39 spec_l18Ok.d62 ?_
             refine p0_ HT_.out 35 40 spec_l18Ok.d63 ?_
             refine p0_ HT_.out 36 41 spec_l18Ok.d64 ?_
             refine p0_ HT_.out 37 42 spec_l18Ok.d38 ?_
             refine p0_ HT_.out 38 43 spec_l18Ok.d39 ?_
             refine p0_ HT_.out 39 44 spec_l18Ok.d40 ?_
             refine p0_ HT_.out 40 45 spec_l18Ok.d41 ?_
             refine p1_ HT_.out 41 46 spec_l18Ok.d42 ?_
             refine p1_ HT_.out 42 47 spec_l18Ok.d43 ?_
             refine p0_ HT_.out 43 48 spec_l18Ok.d44 ?_
             refine p0_ HT_.out 44 49 spec_l18Ok.d45 ?_
             refine p0_ HT_.out 45 50 spec_l18Ok.d46 ?_
             refine p0_ HT_.out 46 51 spec_l18Ok.d56 ?_
             refine p0_ HT_.out 47 52 spec_l18Ok.d57 ?_
             refine p0_ HT_.out 48 53 spec_l18Ok.d58 ?_
             refine p0_ HT_.out 49 54 spec_l18Ok.d50 ?_
             refine p0_ HT_.out 50 55 spec_l18Ok.d51 ?_
             refine p0_ HT_.out 51 56 spec_l18Ok.d52 ?_
             refine p0_ HT_.out 52 57 spec_l18Ok.d53 ?_
             refine p1_ HT_.out 53 58 spec_l18Ok.d54 ?_
             refine p1_ HT_.out 54 4 spec_l18Ok.d55 ?_
             refine done_ (done_of HT_.out (by kernel_rfl)) ?_
             try go_wp2
             go_ret
             exact ⟨by first | rfl | (simp [errW_none, errW_some] <;> rfl) | (simp [*, errW_none, errW_some] <;> rfl), by repeat (first | (with_reducible first | exact HB.out | apply below_alloc | apply pw_below_drewN | apply below_drew1) | exact HB.out)⟩
       · replace c8 := Bool.eq_false_iff.mpr c8
         subst c8
         have H1 : (some false) = some r := by rw [if_neg (show ¬ (false = true) by decide)] at H; exact H
         clear H
         have H := H1
         clear H1
         obtain rfl := Option.some.inj H
         go_enter Try.func53, Try.ntmps53
         try go_wp2
         have n0_ := mkA (below_drew1 HB.out)
         clear HB
         have HB := n0_
         clear n0_
         have p160 : 0 ≤ (0 : Int) := (by omega)
         have q160 : 0 < (l0.length : Int) := of_decide_eq_true (by first | (with_reducible assumption) | assumption)
         obtain ⟨ad160, A160_2, c160_2, e160, hx160_0, hx160_1, hx160_2, hl160_2, hi160_2⟩ := at_T29 HR0.out 0 p160 q160
         have hw160_2 := hx160_2
         (try simp only [show ((0 : Int)).toNat = 0 from rfl, show 0 * 3 = 0 from rfl, Addr.add_zero'] at hw160_2)
         have hw160_1 := hx160_1
         (try simp only [show ((0 : Int)).toNat = 0 from rfl, show 0 * 3 = 0 from rfl, Addr.add_zero'] at hw160_1)
         have hw160_0 := hx160_0
         (try simp only [show ((0 : Int)).toNat = 0 from rfl, show 0 * 3 = 0 from rfl, Addr.add_zero'] at hw160_0)
         cases e160
         (simp only [Go.Proofs.YtnidibnhojedoaaX.rp_add] at hx160_0)
         (simp only [Go.Proofs.YtnidibnhojedoaaX.rp_add] at hx160_1)
         (simp only [Go.Proofs.YtnidibnhojedoaaX.rp_add] at hx160_2)
         have qi160 : (0 < l0.length) = True := eq_true (by omega)
         (try simp only [show ((0 : Int)).toNat = 0 from rfl, show 0 * 3 = 0 from rfl, Addr.add_zero'] at hx160_0 hx160_1 hx160_2)
         replace hx160_0 := bc_ HB.out hx160_0
         replace hx160_1 := bc_ HB.out hx160_1
         replace hx160_2 := bc_ HB.out hx160_2
         have HR160_2 := mkA hi160_2
         have HC160_2 := mkA hl160_2
         clear hi160_2 hl160_2
         replace p160 := eq_true p160
         replace q160 := eq_true q160
         have p162 : 0 ≤ (0 : Int) := (by omega)
         have q162 : 0 < (l1.length : Int) := of_decide_eq_true (by first | (with_reducible assumption) | assumption)
         obtain ⟨ad162, e162, hx162_0, hx162_1, hx162_2⟩ := at_T31 HR1.out 0 p162 q162
         have hw162_2 := hx162_2
         (try simp only [show ((0 : Int)).toNat = 0 from rfl, show 0 * 3 = 0 from rfl, Addr.add_zero'] at hw162_2)
         have hw162_1 := hx162_1
         (try simp only [show ((0 : Int)).toNat = 0 from rfl, show 0 * 3 = 0 from rfl, Addr.add_zero'] at hw162_1)
         have hw162_0 := hx162_0
         (try simp only [show ((0 : Int)).toNat = 0 from rfl, show 0 * 3 = 0 from rfl, Addr.add_zero'] at hw162_0)
         cases e162
         (simp only [Go.Proofs.YtnidibnhojedoaaX.rp_add] at hx162_0)
         (simp only [Go.Proofs.YtnidibnhojedoaaX.rp_add] at hx162_1)
         (simp only [Go.Proofs.YtnidibnhojedoaaX.rp_add] at hx162_2)
         have qi162 : (0 < l1.length) = True := eq_true (by omega)
         (try simp only [show ((0 : Int)).toNat = 0 from rfl, show 0 * 3 = 0 from rfl, Addr.add_zero'] at hx162_0 hx162_1 hx162_2)
         replace hx162_0 := bc_ HB.out hx162_0
         replace hx162_1 := bc_ HB.out hx162_1
         replace hx162_2 := bc_ HB.out hx162_2
         replace p162 := eq_true p162
         replace q162 := eq_true q162
         refine start_ (n := 55) (S := fun w' => w'.cell? ad160 = some (.int .i64 ((rd_T29 l0 0).f0)) ∧ w'.cell? ⟨ad160.block, ad160.off + 1, none⟩ = some (.int .i64 ((rd_T29 l0 0).f1)) ∧ w'.cell? ⟨ad160.block, ad160.off + 2, none⟩ = some (.slice A160_2 ((rd_T29 l0 0).f2).length c160_2) ∧ w'.cell? ad162 = some (.int .i64 ((rd_T31 l1 0).f0)) ∧ w'.cell? ⟨ad162.block, ad162.off + 1, none⟩ = some (.int .i64 ((rd_T31 l1 0).f1)) ∧ w'.cell? ⟨ad162.block, ad162.off + 2, none⟩ = some (.int .i64 ((rd_T31 l1 0).f2))) (ds := []) spec_l18Ok.d0 (by kernel_rfl) rfl rfl ⟨(bc_ HB.out hw160_0 :), (bc_ HB.out hw160_1 :), (bc_ HB.out hw160_2 :), (bc_ HB.out hw162_0 :), (bc_ HB.out hw162_1 :), (bc_ HB.out hw162_2 :)⟩ (fun hHeld => ?_); refine with_tabW spec_l18Ok.tab1 spec_l18Ok.bits1 (fun HT_ HW_ => ?_)
         generalize w.drew = w27 at HB HR160_2 hx160_0 hx160_1 hx160_2 hx162_0 hx162_1 hx162_2 hHeld ⊢
         refine p1_ HT_.out 0 5 spec_l18Ok.d1 ?_
         refine p1_ HT_.out 1 6 spec_l18Ok.d2 ?_
         refine take_ (i := 2) (N := some 7) (v := ?_) (a' := ?_) spec_l18Ok.d3 rfl rfl (take_ofW HT_.out HW_.out (by kernel_rfl)) (fun _ _ _ h => h) (Or.inl ⟨by rfl, ?_⟩) hHeld ?_ ?_
         rotate_left
         · rintro w' ⟨s0, s1, s2, s3, s4, s5⟩
           go_simp
           with_reducible rfl
         rotate_left
         · simp only [Act.put, sA, sB, sC, i64_w, i32_w]
           rfl
         refine one_ (i := 3) (N := some 8) spec_l18Ok.d4 rfl rfl (one_of HT_.out (by kernel_rfl)) (by decide) (fun K hK => ?_)
         refine goes_ Try.func77 (by kernel_rfl) rfl #[.agg #[.int .i64 ((rd_T29 l0 0).f0), .int .i64 ((rd_T29 l0 0).f1), .slice A160_2 ((rd_T29 l0 0).f2).length c160_2]] (by rfl) rfl rfl (by (try simp only [List.map_toArray, List.map_cons, List.map_nil]); first | done | rfl | (simp only [List.length_drop, List.length_take]; rfl)) ?_
         with_reducible refine (spec_ValidTiling.calls k ((rd_T29 l0 0).f0) ((rd_T29 l0 0).f1) _ _ ((rd_T29 l0 0).f2) true _ ?side1 ?side2 A4.out).mono ?_
         (case side1 => exact cb_ HR160_2.out HB.out)
         (case side2 => exact HC160_2.out)
         rintro e w28 ⟨rfl, hb⟩
         refine ⟨_, rfl, ?_⟩
         have n0_ := mkA (below_step (bs0_ HB.out) hb)
         clear HB
         have HB := n0_
         clear n0_
         (try clear hb)
         (try clear hb2)
         (try clear hk)
         (try clear hi)
         refine hK.out _ _ ⟨(bc_ HB.out hw160_0 :), (bc_ HB.out hw160_1 :), (bc_ HB.out hw160_2 :), (bc_ HB.out hw162_0 :), (bc_ HB.out hw162_1 :), (bc_ HB.out hw162_2 :)⟩ (fun hHeld => ?_)
         clear hK K
         refine norm_ (a' := ?_) ?_ ?_
         rotate_left
         · show Act.put _ (some 8) _ = _
           simp only [Act.put, sA, sB, sC, i64_w, i32_w]
           rfl
         refine p1_ HT_.out 4 9 spec_l18Ok.d5 ?_
         refine p1_ HT_.out 5 10 spec_l18Ok.d6 ?_
         refine p1_ HT_.out 6 11 spec_l18Ok.d7 ?_
         refine p1_ HT_.out 7 12 spec_l18Ok.d8 ?_
         refine take_ (i := 8) (N := some 13) (v := ?_) (a' := ?_) spec_l18Ok.d9 rfl rfl (take_ofW HT_.out HW_.out (by kernel_rfl)) (fun _ _ _ h => h) (Or.inl ⟨by rfl, ?_⟩) hHeld ?_ ?_
         rotate_left
         · rintro w' ⟨s0, s1, s2, s3, s4, s5⟩
           go_simp
           with_reducible rfl
         rotate_left
         · simp only [Act.put, sA, sB, sC, i64_w, i32_w]
           rfl
         refine one_ (i := 9) (N := some 14) spec_l18Ok.d10 rfl rfl (one_of HT_.out (by kernel_rfl)) (by decide) (fun K hK => ?_)
         refine goes_ Try.func83 (by kernel_rfl) rfl #[.int .i64 ((rd_T31 l1 0).f0)] (by rfl) rfl rfl (by (try simp only [List.map_toArray, List.map_cons, List.map_nil]); first | done | rfl | (simp only [List.length_drop, List.length_take]; rfl)) ?_
         with_reducible refine (spec_l02Turn.calls ((rd_T31 l1 0).f0) false _ A7.out).mono ?_
         rintro e w' ⟨rfl, ⟨nd, rfl⟩⟩
         refine ⟨_, rfl, ?_⟩
         refine hK.out _ _ ⟨(bc_ HB.out hw160_0 :), (bc_ HB.out hw160_1 :), (bc_ HB.out hw160_2 :), (bc_ HB.out hw162_0 :), (bc_ HB.out hw162_1 :), (bc_ HB.out hw162_2 :)⟩ (fun hHeld => ?_)
         clear hK K
         refine norm_ (a' := ?_) ?_ ?_
         rotate_left
         · show Act.put _ (some 14) _ = _
           simp only [Act.put, sA, sB, sC, i64_w, i32_w]
           rfl
         refine p1_ HT_.out 10 15 spec_l18Ok.d11 ?_
         refine p1_ HT_.out 11 16 spec_l18Ok.d12 ?_
         refine p0_ HT_.out 12 17 spec_l18Ok.d13 ?_
         refine p0_ HT_.out 13 18 spec_l18Ok.d14 ?_
         refine p0_ HT_.out 14 19 spec_l18Ok.d15 ?_
         refine p0_ HT_.out 15 20 spec_l18Ok.d16 ?_
         refine p0_ HT_.out 16 21 spec_l18Ok.d17 ?_
         refine p0_ HT_.out 17 22 spec_l18Ok.d18 ?_
         refine p0_ HT_.out 18 23 spec_l18Ok.d19 ?_
         refine p0_ HT_.out 19 24 spec_l18Ok.d20 ?_
         refine p0_ HT_.out 20 25 spec_l18Ok.d21 ?_
         refine p0_ HT_.out 21 26 spec_l18Ok.d22 ?_
         refine p0_ HT_.out 22 27 spec_l18Ok.d23 ?_
         refine p0_ HT_.out 23 28 spec_l18Ok.d24 ?_
         refine p0_ HT_.out 24 29 spec_l18Ok.d25 ?_
         refine p0_ HT_.out 25 30 spec_l18Ok.d26 ?_
         refine p0_ HT_.out 26 31 spec_l18Ok.d27 ?_
         refine p0_ HT_.out 27 32 spec_l18Ok.d28 ?_
         refine p0_ HT_.out 28 33 spec_l18Ok.d29 ?_
         refine p1_ HT_.out 29 34 spec_l18Ok.d30 ?_
         refine p1_ HT_.out 30 35 spec_l18Ok.d31 ?_
         refine p0_ HT_.out 31 36 spec_l18Ok.d32 ?_
         refine p0_ HT_.out 32 37 spec_l18Ok.d33 ?_
         refine p0_ HT_.out 33 38 spec_l18Ok.d34 ?_
         refine p0_ HT_.out 34 39 spec_l18Ok.d62 ?_
         refine p0_ HT_.out 35 40 spec_l18Ok.d63 ?_
         refine p0_ HT_.out 36 41 spec_l18Ok.d64 ?_
         refine p0_ HT_.out 37 42 spec_l18Ok.d38 ?_
         refine p0_ HT_.out 38 43 spec_l18Ok.d39 ?_
         refine p0_ HT_.out 39 44 spec_l18Ok.d40 ?_
         refine p0_ HT_.out 40 45 spec_l18Ok.d41 ?_
         refine p1_ HT_.out 41 46 spec_l18Ok.d42 ?_
         refine p1_ HT_.out 42 47 spec_l18Ok.d43 ?_
         refine p0_ HT_.out 43 48 spec_l18Ok.d44 ?_
         refine p0_ HT_.out 44 49 spec_l18Ok.d45 ?_
         refine p0_ HT_.out 45 50 spec_l18Ok.d46 ?_
         refine p0_ HT_.out 46 51 spec_l18Ok.d56 ?_
         refine p0_ HT_.out 47 52 spec_l18Ok.d57 ?_
         refine p0_ HT_.out 48 53 spec_l18Ok.d58 ?_
         refine p0_ HT_.out 49 54 spec_l18Ok.d50 ?_
         refine p0_ HT_.out 50 55 spec_l18Ok.d51 ?_
         refine p0_ HT_.out 51 56 spec_l18Ok.d52 ?_
         refine p0_ HT_.out 52 57 spec_l18Ok.d53 ?_
         refine p1_ HT_.out 53 58 spec_l18Ok.d54 ?_
         refine p1_ HT_.out 54 4 spec_l18Ok.d55 ?_
         refine done_ (done_of HT_.out (by kernel_rfl)) ?_
         try go_wp2
         go_ret
         exact ⟨by first | rfl | (simp [errW_none, errW_some] <;> rfl) | (simp [*, errW_none, errW_some] <;> rfl), by repeat (first | (with_reducible first | exact HB.out | apply below_alloc | apply pw_below_drewN | apply below_drew1) | exact HB.out)⟩
     · rw [if_neg c6] at H
       exact absurd H (by simp)
   · replace c5 := Bool.eq_false_iff.mpr c5
     subst c5
     have H1 : (some false) = some r := by rw [if_neg (show ¬ (false = true) by decide)] at H; exact H
     clear H
     have H := H1
     clear H1
     obtain rfl := Option.some.inj H
     go_enter Try.func53, Try.ntmps53
     try go_wp2
     have n0_ := mkA (below_drew1 HB.out)
     clear HB
     have HB := n0_
     clear n0_
     have p160 : 0 ≤ (0 : Int) := (by omega)
     have q160 : 0 < (l0.length : Int) := of_decide_eq_true (by first | (with_reducible assumption) | assumption)
     obtain ⟨ad160, A160_2, c160_2, e160, hx160_0, hx160_1, hx160_2, hl160_2, hi160_2⟩ := at_T29 HR0.out 0 p160 q160
     have hw160_2 := hx160_2
     (try simp only [show ((0 : Int)).toNat = 0 from rfl, show 0 * 3 = 0 from rfl, Addr.add_zero'] at hw160_2)
     have hw160_1 := hx160_1
     (try simp only [show ((0 : Int)).toNat = 0 from rfl, show 0 * 3 = 0 from rfl, Addr.add_zero'] at hw160_1)
     have hw160_0 := hx160_0
     (try simp only [show ((0 : Int)).toNat = 0 from rfl, show 0 * 3 = 0 from rfl, Addr.add_zero'] at hw160_0)
     cases e160
     (simp only [Go.Proofs.YtnidibnhojedoaaX.rp_add] at hx160_0)
     (simp only [Go.Proofs.YtnidibnhojedoaaX.rp_add] at hx160_1)
     (simp only [Go.Proofs.YtnidibnhojedoaaX.rp_add] at hx160_2)
     have qi160 : (0 < l0.length) = True := eq_true (by omega)
     (try simp only [show ((0 : Int)).toNat = 0 from rfl, show 0 * 3 = 0 from rfl, Addr.add_zero'] at hx160_0 hx160_1 hx160_2)
     replace hx160_0 := bc_ HB.out hx160_0
     replace hx160_1 := bc_ HB.out hx160_1
     replace hx160_2 := bc_ HB.out hx160_2
     have HR160_2 := mkA hi160_2
     have HC160_2 := mkA hl160_2
     clear hi160_2 hl160_2
     replace p160 := eq_true p160
     replace q160 := eq_true q160
     refine start_ (n := 55) (S := fun w' => w'.cell? ad160 = some (.int .i64 ((rd_T29 l0 0).f0)) ∧ w'.cell? ⟨ad160.block, ad160.off + 1, none⟩ = some (.int .i64 ((rd_T29 l0 0).f1)) ∧ w'.cell? ⟨ad160.block, ad160.off + 2, none⟩ = some (.slice A160_2 ((rd_T29 l0 0).f2).length c160_2)) (ds := []) spec_l18Ok.d0 (by kernel_rfl) rfl rfl ⟨(bc_ HB.out hw160_0 :), (bc_ HB.out hw160_1 :), (bc_ HB.out hw160_2 :)⟩ (fun hHeld => ?_); refine with_tabW spec_l18Ok.tab1 spec_l18Ok.bits1 (fun HT_ HW_ => ?_)
     generalize w.drew = w29 at HB HR160_2 hx160_0 hx160_1 hx160_2 hHeld ⊢
     refine p1_ HT_.out 0 5 spec_l18Ok.d1 ?_
     refine p1_ HT_.out 1 6 spec_l18Ok.d2 ?_
     refine take_ (i := 2) (N := some 7) (v := ?_) (a' := ?_) spec_l18Ok.d3 rfl rfl (take_ofW HT_.out HW_.out (by kernel_rfl)) (fun _ _ _ h => h) (Or.inl ⟨by rfl, ?_⟩) hHeld ?_ ?_
     rotate_left
     · rintro w' ⟨s0, s1, s2⟩
       go_simp
       with_reducible rfl
     rotate_left
     · simp only [Act.put, sA, sB, sC, i64_w, i32_w]
       rfl
     refine one_ (i := 3) (N := some 8) spec_l18Ok.d4 rfl rfl (one_of HT_.out (by kernel_rfl)) (by decide) (fun K hK => ?_)
     refine goes_ Try.func77 (by kernel_rfl) rfl #[.agg #[.int .i64 ((rd_T29 l0 0).f0), .int .i64 ((rd_T29 l0 0).f1), .slice A160_2 ((rd_T29 l0 0).f2).length c160_2]] (by rfl) rfl rfl (by (try simp only [List.map_toArray, List.map_cons, List.map_nil]); first | done | rfl | (simp only [List.length_drop, List.length_take]; rfl)) ?_
     with_reducible refine (spec_ValidTiling.calls k ((rd_T29 l0 0).f0) ((rd_T29 l0 0).f1) _ _ ((rd_T29 l0 0).f2) false _ ?side1 ?side2 A4.out).mono ?_
     (case side1 => exact cb_ HR160_2.out HB.out)
     (case side2 => exact HC160_2.out)
     rintro e w30 ⟨rfl, hb⟩
     refine ⟨_, rfl, ?_⟩
     have n0_ := mkA (below_step (bs0_ HB.out) hb)
     clear HB
     have HB := n0_
     clear n0_
     (try clear hb)
     (try clear hb2)
     (try clear hk)
     (try clear hi)
     refine hK.out _ _ ⟨(bc_ HB.out hw160_0 :), (bc_ HB.out hw160_1 :), (bc_ HB.out hw160_2 :)⟩ (fun hHeld => ?_)
     clear hK K
     refine norm_ (a' := ?_) ?_ ?_
     rotate_left
     · show Act.put _ (some 8) _ = _
       simp only [Act.put, sA, sB, sC, i64_w, i32_w]
       rfl
     refine p1_ HT_.out 4 9 spec_l18Ok.d5 ?_
     refine p0_ HT_.out 5 10 spec_l18Ok.d6 ?_
     refine p0_ HT_.out 6 11 spec_l18Ok.d7 ?_
     refine p0_ HT_.out 7 12 spec_l18Ok.d8 ?_
     refine p0_ HT_.out 8 13 spec_l18Ok.d9 ?_
     refine p0_ HT_.out 9 14 spec_l18Ok.d10 ?_
     refine p1_ HT_.out 10 15 spec_l18Ok.d11 ?_
     refine p1_ HT_.out 11 16 spec_l18Ok.d12 ?_
     refine p0_ HT_.out 12 17 spec_l18Ok.d13 ?_
     refine p0_ HT_.out 13 18 spec_l18Ok.d14 ?_
     refine p0_ HT_.out 14 19 spec_l18Ok.d15 ?_
     refine p0_ HT_.out 15 20 spec_l18Ok.d16 ?_
     refine p0_ HT_.out 16 21 spec_l18Ok.d17 ?_
     refine p0_ HT_.out 17 22 spec_l18Ok.d18 ?_
     refine p0_ HT_.out 18 23 spec_l18Ok.d19 ?_
     refine p0_ HT_.out 19 24 spec_l18Ok.d20 ?_
     refine p0_ HT_.out 20 25 spec_l18Ok.d21 ?_
     refine p0_ HT_.out 21 26 spec_l18Ok.d22 ?_
     refine p0_ HT_.out 22 27 spec_l18Ok.d23 ?_
     refine p0_ HT_.out 23 28 spec_l18Ok.d24 ?_
     refine p0_ HT_.out 24 29 spec_l18Ok.d25 ?_
     refine p0_ HT_.out 25 30 spec_l18Ok.d26 ?_
     refine p0_ HT_.out 26 31 spec_l18Ok.d27 ?_
     refine p0_ HT_.out 27 32 spec_l18Ok.d28 ?_
     refine p0_ HT_.out 28 33 spec_l18Ok.d29 ?_
     refine p1_ HT_.out 29 34 spec_l18Ok.d30 ?_
     refine p1_ HT_.out 30 35 spec_l18Ok.d31 ?_
     refine p0_ HT_.out 31 36 spec_l18Ok.d32 ?_
     refine p0_ HT_.out 32 37 spec_l18Ok.d33 ?_
     refine p0_ HT_.out 33 38 spec_l18Ok.d34 ?_
     refine p0_ HT_.out 34 39 spec_l18Ok.d62 ?_
     refine p0_ HT_.out 35 40 spec_l18Ok.d63 ?_
     refine p0_ HT_.out 36 41 spec_l18Ok.d64 ?_
     refine p0_ HT_.out 37 42 spec_l18Ok.d38 ?_
     refine p0_ HT_.out 38 43 spec_l18Ok.d39 ?_
     refine p0_ HT_.out 39 44 spec_l18Ok.d40 ?_
     refine p0_ HT_.out 40 45 spec_l18Ok.d41 ?_
     refine p1_ HT_.out 41 46 spec_l18Ok.d42 ?_
     refine p1_ HT_.out 42 47 spec_l18Ok.d43 ?_
     refine p0_ HT_.out 43 48 spec_l18Ok.d44 ?_
     refine p0_ HT_.out 44 49 spec_l18Ok.d45 ?_
     refine p0_ HT_.out 45 50 spec_l18Ok.d46 ?_
     refine p0_ HT_.out 46 51 spec_l18Ok.d56 ?_
     refine p0_ HT_.out 47 52 spec_l18Ok.d57 ?_
     refine p0_ HT_.out 48 53 spec_l18Ok.d58 ?_
     refine p0_ HT_.out 49 54 spec_l18Ok.d50 ?_
     refine p0_ HT_.out 50 55 spec_l18Ok.d51 ?_
     refine p0_ HT_.out 51 56 spec_l18Ok.d52 ?_
     refine p0_ HT_.out 52 57 spec_l18Ok.d53 ?_
     refine p1_ HT_.out 53 58 spec_l18Ok.d54 ?_
     refine p1_ HT_.out 54 4 spec_l18Ok.d55 ?_
     refine done_ (done_of HT_.out (by kernel_rfl)) ?_
     try go_wp2
     go_ret
     exact ⟨by first | rfl | (simp [errW_none, errW_some] <;> rfl) | (simp [*, errW_none, errW_some] <;> rfl), by repeat (first | (with_reducible first | exact HB.out | apply below_alloc | apply pw_below_drewN | apply below_drew1) | exact HB.out)⟩
 · rw [if_neg c3] at H
   exact absurd H (by simp)

end Go.Proofs.Ytnidibnhojedoaa.GFnExactValidMotion
