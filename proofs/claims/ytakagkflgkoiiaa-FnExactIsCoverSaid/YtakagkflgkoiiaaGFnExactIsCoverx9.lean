-- Written by the session's own program (gen.py) out of the translation's print. Lean checks it.
import Derived.Test.YtakagkflgkoiiaaQ
import Derived.Test.YtakagkflgkoiiaaGFnExactIsCoverx0
import Derived.Test.YtakagkflgkoiiaaGFnExactIsCoverx5
import Derived.Test.YtakagkflgkoiiaaGFnExactIsCoverx7
import Derived.Test.YtakagkflgkoiiaaGFnExactIsCoverx8
namespace Go.Proofs.Ytakagkflgkoiiaa.GFnExactIsCover
open Go.RowKit Go.Proofs.YtakagkflgkoiiaaW.PrintWords Go.Proofs.YtakagkflgkoiiaaW.PrintLast Go.Proofs.YtakagkflgkoiiaaW.PrintMore
open List renaming setIfInBounds_toArray → sA, set_cons_zero → sB, set_cons_succ → sC
open Go.Proofs.YtakagkflgkoiiaaW.PrintWords.Aside0 renaming mk → mkA
open Go.Proofs.YtakagkflgkoiiaaX (dt_ bc_ p0_ p1_ bl_ cb_ bs0_ bs1_ bs2_ bs3_ bs4_ bs5_ bs6_ bs7_ bs8_ bs9_ bs10_ bs11_ bs12_)
open Go.Proofs.YtakagkflgkoiiaaQ
attribute [local go_sem] max2_int min2_int max_two min_two max_three min_three max_four min_four 
set_option linter.unusedVariables false
set_option linter.unusedSimpArgs false

/-! ### spec_l19Piece: function 72 -/
mutual
def spec_l19Piece.j0 : Nat → Bool → List (S53) → Option (Bool)
  | 0, _, _ => none
  | k + 1, x35, x960 => if x35 = true then (some false) else (spec_l19Piece.l0 k 0 x960)
def spec_l19Piece.l0 : Nat → Int → List (S53) → Option (Bool)
  | 0, _, _ => none
  | k + 1, x3, x960 => if 0 < (x960.length : Int) then (if x3 < (((rd_T53 x960 0).f1).length : Int) then (if 0 ≤ x3 then ((spec_l00In.f ((rd_T105 ((rd_T53 x960 0).f1) x3).f0) 0 5).bind fun t224 => (if t224 = true then ((spec_l00In.f ((rd_T105 ((rd_T53 x960 0).f1) x3).f1) 0 5).bind fun t227 => (if t227 = true then (if x3 > 0 then (if 0 ≤ (wrap64 (x3 - 1)) then (if (wrap64 (x3 - 1)) < (((rd_T53 x960 0).f1).length : Int) then ((spec_l19Before.f ((rd_T105 ((rd_T53 x960 0).f1) (wrap64 (x3 - 1))).f0) ((rd_T105 ((rd_T53 x960 0).f1) (wrap64 (x3 - 1))).f1) ((rd_T105 ((rd_T53 x960 0).f1) x3).f0) ((rd_T105 ((rd_T53 x960 0).f1) x3).f1)).bind fun t232 => (if t232 = true then (spec_l19Piece.l0 k (wrap64 (x3 + 1)) x960) else (some false))) else (none)) else (none)) else (spec_l19Piece.l0 k (wrap64 (x3 + 1)) x960)) else (some false))) else (some false))) else (none)) else ((spec_l03Bounds.f k ((rd_T53 x960 0).f1)).bind fun bt216 => (if bt216.1 = 0 then (some (bt216.2.1 == 0)) else (some false)))) else (none)
end
def spec_l19Piece.f (k : Nat) (l0 : List (S53)) : Option (Bool) := if 0 < (l0.length : Int) then ((spec_l01Name.f k ((rd_T53 l0 0).f0)).bind fun t209 => (if t209 = true then (if (((rd_T53 l0 0).f1).length : Int) < 1 then (spec_l19Piece.j0 k true l0) else (if (((rd_T53 l0 0).f1).length : Int) > 6 then (spec_l19Piece.j0 k true l0) else ((spec_l00In.f ((rd_T53 l0 0).f2) 0 24).bind fun t213 => (spec_l19Piece.j0 k (!t213) l0)))) else (spec_l19Piece.j0 k true l0))) else (none)
def spec_l19Piece.T6 : Bool × List (List Nat × List Nat) := (true, [([], []), ([0], [0]), ([1], [1]), ([2], [2]), ([], []), ([3, 4], [3, 4]), ([5], [5]), ([6], [6]), ([7], [7]), ([8], [8]), ([9, 8], [9]), ([10], [10]), ([11, 10], [10, 11]), ([12, 10], [10, 12]), ([13, 10], [10, 13]), ([10], [10]), ([14, 15, 10], [10, 14, 15]), ([16, 10], [10, 16]), ([17, 10], [10, 17]), ([18, 10, 10], [10, 18]), ([19, 10], [10, 19]), ([10, 20], [10, 20]), ([21, 19], [21]), ([22], [22]), ([23, 22], [22, 23]), ([24, 22, 22], [22, 24]), ([25], [25]), ([26, 25], [25, 26]), ([27, 25], [25, 27]), ([28, 25], [25, 28]), ([25], [25]), ([30, 25], [25, 30]), ([29, 31, 25], [25, 29, 31]), ([32, 25], [25, 32]), ([25], [25]), ([34, 25], [25, 34]), ([35, 25], [25, 35]), ([36, 25], [25, 36]), ([25], [25]), ([37, 38, 25], [25, 37, 38]), ([39, 25], [25, 39]), ([33, 40, 25, 25], [25, 33, 40]), ([41, 25], [25, 41]), ([25, 42, 22], [22, 25, 42]), ([22, 43], [22, 43])])
def spec_l19Piece.B6 : List Nat := [0, 1, 3, 7, 0, 31, 63, 127, 255, 511, 1023, 2047, 4095, 8191, 16383, 2047, 65535, 131071, 262143, 524287, 1048575, 2097151, 4194303, 8388607, 16777215, 33554431, 67108863, 134217727, 268435455, 536870911, 67108863, 1140850687, 4294967295, 8589934591, 67108863, 17246978047, 51606716415, 120326193151, 67108863, 532643053567, 1082398867455, 2199023255551, 4398046511103, 8796093022207, 17592186044415]
theorem spec_l19Piece.tab6 : rtab .any (opsOf Try.f72 6) = spec_l19Piece.T6 := by kernel_rfl
theorem spec_l19Piece.bits6 : waitsOk spec_l19Piece.T6.2 spec_l19Piece.B6 = true := by kernel_rfl
set_option maxHeartbeats 8000000 in
set_option maxRecDepth 100000 in
theorem spec_l19Piece.calls (k : Nat) (A0 : Option Addr) (l0 : List (S53)) (r : Bool) (w : World) (hr0 : Kd.C k53 w A0 l0.length l0) (h : spec_l19Piece.f k l0 = some r) :
 Calls Try.prog 72 #[.pointer A0] w fun e w' => e = .returned (.bool r) ∧ Below w.heap.size w w' := by
 have hu105 := Try.underlying105
 have HR0 := mkA hr0
 clear hr0
 have HB := mkA (Below.refl w.heap.size w)
 unfold spec_l19Piece.f at h
 have H := h
 clear h
 have HC2 := mkA H
 clear H
 go_enter Try.func72, Try.ntmps72
 go_upto_region 1 with (fail)
 go_cut [35] (fun v35 wc => ∃ (kq : Nat) (x35_1 : Bool), v35 = .bool x35_1 ∧ Aside0 (spec_l19Piece.j0 kq x35_1 l0 = some r) ∧ Aside0 (kq ≤ k) ∧ Aside0 (Below w.heap.size w wc))
 case first =>
  have H := HC2.out
  clear HC2
  revert H
  refine ng_ fun c3 => ?_
  intro H
  have c3b0 := decide_eq_true c3
  have c3b1 : decide (0 < l0.length) = true := decide_eq_true (by omega)
  clear c3
  (first | rw [c3b0] | (simp only [i64_w, i32_w]; rw [c3b0]) | skip)
  revert H
  refine ob_ fun t209 A4 => ?_
  intro H
  by_cases c5 : t209 = true
  rotate_left
  · replace c5 := Bool.eq_false_iff.mpr c5
    subst c5
    rw [if_neg Bool.false_ne_true] at H
    have H' := mkA H
    clear H
    obtain ⟨ad208, A208_1, c208_1, e208, hx208_0, hx208_1, hx208_2, hx208_3, hl208_1, hi208_1⟩ := at0_T53 HR0.out dt_
    cases e208
    have HR208_1 := mkA hi208_1
    have HC208_1 := mkA hl208_1
    clear hi208_1 hl208_1
    obtain ⟨hx208_0, hx208_1, hx208_2, hx208_3⟩ := b4_ HB.out hx208_0 hx208_1 hx208_2 hx208_3
    have p208 : (0 ≤ (0 : Int)) = True := eq_true (by omega)
    have q208 : (0 < (l0.length : Int)) = True := eq_true dt_
    have qi208 := qn_ q208
    go_wp2_with (first | ((with_reducible refine gk_ 91 ?_); refine gl_ (some 10) Try.func91 #[.string ((rd_T53 l0 0).f0)] ?_; (with_reducible refine (spec_l01Name.calls k ((rd_T53 l0 0).f0) false _ A4.out).mono ?_); rintro e w' ⟨rfl, ⟨nd, rfl⟩⟩; refine ⟨_, rfl, ?_⟩))
    go_meet
    case rel => exact ⟨_, (true), rf_, H', ⟨by first | omega | exact Nat.le_refl _⟩, ⟨bs0_ HB.out⟩⟩
  subst c5
  rw [if_pos rfl] at H
  by_cases c6 : (((rd_T53 l0 0).f1).length : Int) < 1
  · rw [if_pos c6] at H
    have c6b0 := decide_eq_true c6
    have c6b1 : decide (((rd_T53 l0 0).f1).length < 1) = true := decide_eq_true (by omega)
    clear c6
    have H' := mkA H
    clear H
    obtain ⟨ad208, A208_1, c208_1, e208, hx208_0, hx208_1, hx208_2, hx208_3, hl208_1, hi208_1⟩ := at0_T53 HR0.out dt_
    cases e208
    have HR208_1 := mkA hi208_1
    have HC208_1 := mkA hl208_1
    clear hi208_1 hl208_1
    obtain ⟨hx208_0, hx208_1, hx208_2, hx208_3⟩ := b4_ HB.out hx208_0 hx208_1 hx208_2 hx208_3
    have p208 : (0 ≤ (0 : Int)) = True := eq_true (by omega)
    have q208 : (0 < (l0.length : Int)) = True := eq_true dt_
    have qi208 := qn_ q208
    go_wp2_with (first | ((with_reducible refine gk_ 91 ?_); refine gl_ (some 10) Try.func91 #[.string ((rd_T53 l0 0).f0)] ?_; (with_reducible refine (spec_l01Name.calls k ((rd_T53 l0 0).f0) true _ A4.out).mono ?_); rintro e w' ⟨rfl, ⟨nd, rfl⟩⟩; refine ⟨_, rfl, ?_⟩; have p210 : 0 ≤ (0 : Int) := (by omega); have q210 : 0 < (l0.length : Int) := dt_; obtain ⟨ad210, A210_1, c210_1, e210, hx210_0, hx210_1, hx210_2, hx210_3, hl210_1, hi210_1⟩ := at0_T53 HR0.out q210; obtain rfl : ad208 = ad210 := (by injection e210); have qi210 : (0 < l0.length) = True := eq_true (by omega); replace hx210_0 := bc_ HB.out hx210_0; replace hx210_1 := bc_ HB.out hx210_1; replace hx210_2 := bc_ HB.out hx210_2; replace hx210_3 := bc_ HB.out hx210_3; have HR210_1 := mkA hi210_1; have HC210_1 := mkA hl210_1; clear hi210_1 hl210_1; replace p210 := eq_true p210; replace q210 := eq_true q210; have ea_ := Option.some.inj (hx208_1.symm.trans hx210_1); injection ea_ with ea_ en_ ec_; subst ea_; subst ec_; clear en_))
    go_meet
    case rel => exact ⟨_, (true), rf_, H', ⟨by first | omega | exact Nat.le_refl _⟩, ⟨bs0_ HB.out⟩⟩
  · rw [if_neg c6] at H
    have c6b0 := decide_eq_false c6
    have c6b1 : decide (((rd_T53 l0 0).f1).length < 1) = false := decide_eq_false (by omega)
    clear c6
    by_cases c7 : (((rd_T53 l0 0).f1).length : Int) > 6
    · rw [if_pos c7] at H
      have c7b0 := decide_eq_true c7
      have c7b1 : decide (6 < ((rd_T53 l0 0).f1).length) = true := decide_eq_true (by omega)
      clear c7
      have H' := mkA H
      clear H
      obtain ⟨ad208, A208_1, c208_1, e208, hx208_0, hx208_1, hx208_2, hx208_3, hl208_1, hi208_1⟩ := at0_T53 HR0.out dt_
      cases e208
      have HR208_1 := mkA hi208_1
      have HC208_1 := mkA hl208_1
      clear hi208_1 hl208_1
      obtain ⟨hx208_0, hx208_1, hx208_2, hx208_3⟩ := b4_ HB.out hx208_0 hx208_1 hx208_2 hx208_3
      have p208 : (0 ≤ (0 : Int)) = True := eq_true (by omega)
      have q208 : (0 < (l0.length : Int)) = True := eq_true dt_
      have qi208 := qn_ q208
      go_wp2_with (first | ((with_reducible refine gk_ 91 ?_); refine gl_ (some 10) Try.func91 #[.string ((rd_T53 l0 0).f0)] ?_; (with_reducible refine (spec_l01Name.calls k ((rd_T53 l0 0).f0) true _ A4.out).mono ?_); rintro e w' ⟨rfl, ⟨nd, rfl⟩⟩; refine ⟨_, rfl, ?_⟩; have p210 : 0 ≤ (0 : Int) := (by omega); have q210 : 0 < (l0.length : Int) := dt_; obtain ⟨ad210, A210_1, c210_1, e210, hx210_0, hx210_1, hx210_2, hx210_3, hl210_1, hi210_1⟩ := at0_T53 HR0.out q210; obtain rfl : ad208 = ad210 := (by injection e210); have qi210 : (0 < l0.length) = True := eq_true (by omega); replace hx210_0 := bc_ HB.out hx210_0; replace hx210_1 := bc_ HB.out hx210_1; replace hx210_2 := bc_ HB.out hx210_2; replace hx210_3 := bc_ HB.out hx210_3; have HR210_1 := mkA hi210_1; have HC210_1 := mkA hl210_1; clear hi210_1 hl210_1; replace p210 := eq_true p210; replace q210 := eq_true q210; have ea_ := Option.some.inj (hx208_1.symm.trans hx210_1); injection ea_ with ea_ en_ ec_; subst ea_; subst ec_; clear en_; have p211 : 0 ≤ (0 : Int) := (by omega); have q211 : 0 < (l0.length : Int) := dt_; obtain ⟨ad211, A211_1, c211_1, e211, hx211_0, hx211_1, hx211_2, hx211_3, hl211_1, hi211_1⟩ := at0_T53 HR0.out q211; obtain rfl : ad208 = ad211 := (by injection e211); have qi211 : (0 < l0.length) = True := eq_true (by omega); replace hx211_0 := bc_ HB.out hx211_0; replace hx211_1 := bc_ HB.out hx211_1; replace hx211_2 := bc_ HB.out hx211_2; replace hx211_3 := bc_ HB.out hx211_3; have HR211_1 := mkA hi211_1; have HC211_1 := mkA hl211_1; clear hi211_1 hl211_1; replace p211 := eq_true p211; replace q211 := eq_true q211; have ea_ := Option.some.inj (hx208_1.symm.trans hx211_1); injection ea_ with ea_ en_ ec_; subst ea_; subst ec_; clear en_))
      go_meet
      case rel => exact ⟨_, (true), rf_, H', ⟨by first | omega | exact Nat.le_refl _⟩, ⟨bs0_ HB.out⟩⟩
    · rw [if_neg c7] at H
      have c7b0 := decide_eq_false c7
      have c7b1 : decide (6 < ((rd_T53 l0 0).f1).length) = false := decide_eq_false (by omega)
      clear c7
      revert H
      refine ob_ fun t213 A8 => ?_
      intro H
      have H' := mkA H
      clear H
      obtain ⟨ad208, A208_1, c208_1, e208, hx208_0, hx208_1, hx208_2, hx208_3, hl208_1, hi208_1⟩ := at0_T53 HR0.out dt_
      cases e208
      have HR208_1 := mkA hi208_1
      have HC208_1 := mkA hl208_1
      clear hi208_1 hl208_1
      obtain ⟨hx208_0, hx208_1, hx208_2, hx208_3⟩ := b4_ HB.out hx208_0 hx208_1 hx208_2 hx208_3
      have p208 : (0 ≤ (0 : Int)) = True := eq_true (by omega)
      have q208 : (0 < (l0.length : Int)) = True := eq_true dt_
      have qi208 := qn_ q208
      go_wp2_with (first | ((with_reducible refine gk_ 91 ?_); refine gl_ (some 10) Try.func91 #[.string ((rd_T53 l0 0).f0)] ?_; (with_reducible refine (spec_l01Name.calls k ((rd_T53 l0 0).f0) true _ A4.out).mono ?_); rintro e w' ⟨rfl, ⟨nd, rfl⟩⟩; refine ⟨_, rfl, ?_⟩; have p210 : 0 ≤ (0 : Int) := (by omega); have q210 : 0 < (l0.length : Int) := dt_; obtain ⟨ad210, A210_1, c210_1, e210, hx210_0, hx210_1, hx210_2, hx210_3, hl210_1, hi210_1⟩ := at0_T53 HR0.out q210; obtain rfl : ad208 = ad210 := (by injection e210); have qi210 : (0 < l0.length) = True := eq_true (by omega); replace hx210_0 := bc_ HB.out hx210_0; replace hx210_1 := bc_ HB.out hx210_1; replace hx210_2 := bc_ HB.out hx210_2; replace hx210_3 := bc_ HB.out hx210_3; have HR210_1 := mkA hi210_1; have HC210_1 := mkA hl210_1; clear hi210_1 hl210_1; replace p210 := eq_true p210; replace q210 := eq_true q210; have ea_ := Option.some.inj (hx208_1.symm.trans hx210_1); injection ea_ with ea_ en_ ec_; subst ea_; subst ec_; clear en_; have p211 : 0 ≤ (0 : Int) := (by omega); have q211 : 0 < (l0.length : Int) := dt_; obtain ⟨ad211, A211_1, c211_1, e211, hx211_0, hx211_1, hx211_2, hx211_3, hl211_1, hi211_1⟩ := at0_T53 HR0.out q211; obtain rfl : ad208 = ad211 := (by injection e211); have qi211 : (0 < l0.length) = True := eq_true (by omega); replace hx211_0 := bc_ HB.out hx211_0; replace hx211_1 := bc_ HB.out hx211_1; replace hx211_2 := bc_ HB.out hx211_2; replace hx211_3 := bc_ HB.out hx211_3; have HR211_1 := mkA hi211_1; have HC211_1 := mkA hl211_1; clear hi211_1 hl211_1; replace p211 := eq_true p211; replace q211 := eq_true q211; have ea_ := Option.some.inj (hx208_1.symm.trans hx211_1); injection ea_ with ea_ en_ ec_; subst ea_; subst ec_; clear en_; have p212 : 0 ≤ (0 : Int) := (by omega); have q212 : 0 < (l0.length : Int) := dt_; obtain ⟨ad212, A212_1, c212_1, e212, hx212_0, hx212_1, hx212_2, hx212_3, hl212_1, hi212_1⟩ := at0_T53 HR0.out q212; obtain rfl : ad208 = ad212 := (by injection e212); have qi212 : (0 < l0.length) = True := eq_true (by omega); replace hx212_0 := bc_ HB.out hx212_0; replace hx212_1 := bc_ HB.out hx212_1; replace hx212_2 := bc_ HB.out hx212_2; replace hx212_3 := bc_ HB.out hx212_3; have HR212_1 := mkA hi212_1; have HC212_1 := mkA hl212_1; clear hi212_1 hl212_1; replace p212 := eq_true p212; replace q212 := eq_true q212; have ea_ := Option.some.inj (hx208_1.symm.trans hx212_1); injection ea_ with ea_ en_ ec_; subst ea_; subst ec_; clear en_) | (go_at_call 60; (with_reducible refine (spec_l00In.calls ((rd_T53 l0 0).f2) 0 24 t213 _ A8.out).mono ?_); rintro e w' ⟨rfl, ⟨nd, rfl⟩⟩))
      go_meet
      case rel => exact ⟨_, (!t213), rf_, H', ⟨by first | omega | exact Nat.le_refl _⟩, ⟨bs0_ HB.out⟩⟩
 case rest =>
  clear HC2
  try clear c3 c3b0 c3b1 c5 c6 c6b0 c6b1 c7 c7b0 c7b1
  try clear hx208_0 hx208_1 hx208_2 hx208_3 hx210_0 hx210_1 hx210_2 hx210_3 hx211_0 hx211_1 hx211_2 hx211_3 hx212_0 hx212_1 hx212_2 hx212_3
  try clear p208 p210 p211 p212
  try clear q208 q210 q211 q212
  obtain ⟨kq, x35_1, rfl, HA, HJ1, HB⟩ := hcut
  cases kq with
  | zero => exact absurd HA.out (by simp [spec_l19Piece.j0])
  | succ kj1 =>
   have H := HA.out
   clear HA
   simp only [spec_l19Piece.j0] at H
   by_cases c9 : x35_1 = true
   · subst c9
     rw [if_pos rfl] at H
     obtain rfl := Option.some.inj H
     go_wp2
     go_ret
     exact ⟨re_, bs0_ HB.out⟩
   · replace c9 := Bool.eq_false_iff.mpr c9
     subst c9
     rw [if_neg Bool.false_ne_true] at H
     have H' := mkA H
     clear H
     go_wp2
     go_loopg [3] kj1 (fun kq v3 w' => ∃ (x3_2 : Int), v3 = .int .i64 x3_2 ∧ Aside0 (spec_l19Piece.l0 kq x3_2 l0 = some r) ∧ Aside0 (kq ≤ kj1) ∧ Aside0 (Below w.heap.size w w'))
     case atStart => exact ⟨(0), rf_, H', ⟨Nat.le_refl _⟩, ⟨bs0_ HB.out⟩⟩
     case round =>
      clear H'
      try clear c3 c3b0 c3b1 c5 c6 c6b0 c6b1 c7 c7b0 c7b1 c9
      try clear hx208_0 hx208_1 hx208_2 hx208_3 hx210_0 hx210_1 hx210_2 hx210_3 hx211_0 hx211_1 hx211_2 hx211_3 hx212_0 hx212_1 hx212_2 hx212_3
      try clear p208 p210 p211 p212
      try clear q208 q210 q211 q212
      obtain ⟨x3_2, rfl, HA, HK2, HB⟩ := hrel
      cases gk with
      | zero => exact absurd HA.out (by simp [spec_l19Piece.l0])
      | succ k2 =>
       have H := HA.out
       clear HA
       simp only [spec_l19Piece.l0] at H
       revert H
       refine ng_ fun c10 => ?_
       intro H
       have c10b0 := decide_eq_true c10
       have c10b1 : decide (0 < l0.length) = true := decide_eq_true (by omega)
       clear c10
       by_cases c11 : x3_2 < (((rd_T53 l0 0).f1).length : Int)
       rotate_left
       · rw [if_neg c11] at H
         have c11b0 := decide_eq_false c11
         clear c11
         revert H
         refine ob_ fun t_ A30 => ?_
         intro H
         obtain ⟨t216, t217, t218, t219⟩ := t_
         try dsimp only at H
         by_cases c31 : t216 = 0
         rotate_left
         · rw [if_neg c31] at H
           have c31b0 : (t216 == 0) = false := beq_eq_false_iff_ne.mpr c31
           have c31b1 : (t216 != 0) = true := bne_iff_ne.mpr c31
           obtain rfl := Option.some.inj H
           obtain ⟨ad214, A214_1, c214_1, e214, hx214_0, hx214_1, hx214_2, hx214_3, hl214_1, hi214_1⟩ := at0_T53 HR0.out dt_
           cases e214
           have HR214_1 := mkA hi214_1
           have HC214_1 := mkA hl214_1
           clear hi214_1 hl214_1
           obtain ⟨hx214_0, hx214_1, hx214_2, hx214_3⟩ := b4_ HB.out hx214_0 hx214_1 hx214_2 hx214_3
           have p214 : (0 ≤ (0 : Int)) = True := eq_true (by omega)
           have q214 : (0 < (l0.length : Int)) = True := eq_true dt_
           have qi214 := qn_ q214
           obtain ⟨ad215, A215_1, c215_1, e215, hx215_0, hx215_1, hx215_2, hx215_3, hl215_1, hi215_1⟩ := at0_T53 HR0.out dt_
           obtain rfl : ad214 = ad215 := (by injection e215)
           have HR215_1 := mkA hi215_1
           have HC215_1 := mkA hl215_1
           clear hi215_1 hl215_1
           obtain ⟨hx215_0, hx215_1, hx215_2, hx215_3⟩ := b4_ HB.out hx215_0 hx215_1 hx215_2 hx215_3
           have p215 : (0 ≤ (0 : Int)) = True := eq_true (by omega)
           have q215 : (0 < (l0.length : Int)) = True := eq_true dt_
           have qi215 := qn_ q215
           have ea_ := Option.some.inj (hx214_1.symm.trans hx215_1)
           injection ea_ with ea_ en_ ec_
           subst ea_
           subst ec_
           clear en_
           go_wp2_with (first | ((with_reducible refine gk_ 93 ?_); refine gl_ (some 95) Try.func93 #[.slice A214_1 ((rd_T53 l0 0).f1).length c214_1] ?_; (with_reducible refine (spec_l03Bounds.calls k2 _ _ ((rd_T53 l0 0).f1) t216 t217 t218 t219 _ ?side1 ?side2 A30.out).mono ?_); (case side1 => exact cb_ HR215_1.out HB.out); (case side2 => exact HC215_1.out); rintro e w38 ⟨rfl, hb⟩; refine ⟨_, rfl, ?_⟩; replace HB := mkA (below_step (bs0_ HB.out) hb); (try clear hb); (try clear hb2); (try clear hk); (try clear hi)) | ((with_reducible refine gt_ 4 ?_); (try (refine gate_guard (by rfl) ?_; dsimp only)); refine box_event ?hg (N := 4) ?hd (cs := #[.int .i64 0, .int .i64 0]) (t := 105) ?hr ?_; (case hd => rfl); (case hg => rfl); (case hr => first | (go_simp; done) | (go_simp; rfl)); intro gb220 hg w39 hbox hb; have BK220 := mkA (hbox); have GW220 := gs_ hg (bs0_ HB.out); have GE220 := GW220; replace HB := mkA (below_step (bs0_ HB.out) hb); clear hb hbox hg) | ((with_reducible refine gt_ 5 ?_); (try (refine gate_guard (by rfl) ?_; dsimp only)); refine box_event ?hg (N := 5) ?hd (cs := #[.int .i64 0, .int .i64 0]) (t := 105) ?hr ?_; (case hd => rfl); (case hg => rfl); (case hr => first | (go_simp; done) | (go_simp; rfl)); intro gb221 hg w40 hbox hb; have BK221 := mkA (hbox); have GW221 := gs_ hg (bs1_ HB.out GE220.out); have GE221 := GW221; replace HB := mkA (below_step (bs1_ HB.out GE220.out) hb); have NB220_221 := nl_ hg (bl_ BK220.out); have NB221_220 := nr_ hg (bl_ BK220.out); replace BK220 := mkA (blk_below (bl_ BK220.out) hb); clear hb hbox hg; have hnb41 := NB220_221.out; have hnc41 := NB221_220.out; obtain ⟨hcz42_0, hcz42_1, hfz42_0, hfz42_1⟩ := z2_ BK220.out; obtain ⟨hcz43_0, hcz43_1, hfz43_0, hfz43_1⟩ := z2_ BK221.out))
           go_ret
           exact ⟨re_, bs2_ HB.out GE220.out GE221.out⟩
         rw [if_pos c31] at H
         have c31b0 : (t216 == 0) = true := beq_iff_eq.mpr c31
         have c31b1 : (t216 != 0) = false := bne_eq_false_iff_eq.mpr c31
         clear c31
         obtain rfl := Option.some.inj H
         obtain ⟨ad214, A214_1, c214_1, e214, hx214_0, hx214_1, hx214_2, hx214_3, hl214_1, hi214_1⟩ := at0_T53 HR0.out dt_
         cases e214
         have HR214_1 := mkA hi214_1
         have HC214_1 := mkA hl214_1
         clear hi214_1 hl214_1
         obtain ⟨hx214_0, hx214_1, hx214_2, hx214_3⟩ := b4_ HB.out hx214_0 hx214_1 hx214_2 hx214_3
         have p214 : (0 ≤ (0 : Int)) = True := eq_true (by omega)
         have q214 : (0 < (l0.length : Int)) = True := eq_true dt_
         have qi214 := qn_ q214
         obtain ⟨ad215, A215_1, c215_1, e215, hx215_0, hx215_1, hx215_2, hx215_3, hl215_1, hi215_1⟩ := at0_T53 HR0.out dt_
         obtain rfl : ad214 = ad215 := (by injection e215)
         have HR215_1 := mkA hi215_1
         have HC215_1 := mkA hl215_1
         clear hi215_1 hl215_1
         obtain ⟨hx215_0, hx215_1, hx215_2, hx215_3⟩ := b4_ HB.out hx215_0 hx215_1 hx215_2 hx215_3
         have p215 : (0 ≤ (0 : Int)) = True := eq_true (by omega)
         have q215 : (0 < (l0.length : Int)) = True := eq_true dt_
         have qi215 := qn_ q215
         have ea_ := Option.some.inj (hx214_1.symm.trans hx215_1)
         injection ea_ with ea_ en_ ec_
         subst ea_
         subst ec_
         clear en_
         go_wp2_with (first | ((with_reducible refine gk_ 93 ?_); refine gl_ (some 95) Try.func93 #[.slice A214_1 ((rd_T53 l0 0).f1).length c214_1] ?_; (with_reducible refine (spec_l03Bounds.calls k2 _ _ ((rd_T53 l0 0).f1) t216 t217 t218 t219 _ ?side1 ?side2 A30.out).mono ?_); (case side1 => exact cb_ HR215_1.out HB.out); (case side2 => exact HC215_1.out); rintro e w32 ⟨rfl, hb⟩; refine ⟨_, rfl, ?_⟩; replace HB := mkA (below_step (bs0_ HB.out) hb); (try clear hb); (try clear hb2); (try clear hk); (try clear hi)) | ((with_reducible refine gt_ 4 ?_); (try (refine gate_guard (by rfl) ?_; dsimp only)); refine box_event ?hg (N := 4) ?hd (cs := #[.int .i64 0, .int .i64 0]) (t := 105) ?hr ?_; (case hd => rfl); (case hg => rfl); (case hr => first | (go_simp; done) | (go_simp; rfl)); intro gb220 hg w33 hbox hb; have BK220 := mkA (hbox); have GW220 := gs_ hg (bs0_ HB.out); have GE220 := GW220; replace HB := mkA (below_step (bs0_ HB.out) hb); clear hb hbox hg) | ((with_reducible refine gt_ 5 ?_); (try (refine gate_guard (by rfl) ?_; dsimp only)); refine box_event ?hg (N := 5) ?hd (cs := #[.int .i64 0, .int .i64 0]) (t := 105) ?hr ?_; (case hd => rfl); (case hg => rfl); (case hr => first | (go_simp; done) | (go_simp; rfl)); intro gb221 hg w34 hbox hb; have BK221 := mkA (hbox); have GW221 := gs_ hg (bs1_ HB.out GE220.out); have GE221 := GW221; replace HB := mkA (below_step (bs1_ HB.out GE220.out) hb); have NB220_221 := nl_ hg (bl_ BK220.out); have NB221_220 := nr_ hg (bl_ BK220.out); replace BK220 := mkA (blk_below (bl_ BK220.out) hb); clear hb hbox hg; have hnb35 := NB220_221.out; have hnc35 := NB221_220.out; obtain ⟨hcz36_0, hcz36_1, hfz36_0, hfz36_1⟩ := z2_ BK220.out; obtain ⟨hcz37_0, hcz37_1, hfz37_0, hfz37_1⟩ := z2_ BK221.out))
         go_ret
         exact ⟨re_, bs2_ HB.out GE220.out GE221.out⟩
       rw [if_pos c11] at H
       have c11b0 := decide_eq_true c11
       clear c11
       revert H
       refine ng_ fun c12 => ob_ fun t224 A13 => ?_
       intro H
       have c12b0 := decide_eq_true c12
       clear c12
       by_cases c14 : t224 = true
       rotate_left
       · replace c14 := Bool.eq_false_iff.mpr c14
         subst c14
         rw [if_neg Bool.false_ne_true] at H
         obtain rfl := Option.some.inj H
         obtain ⟨ad214, A214_1, c214_1, e214, hx214_0, hx214_1, hx214_2, hx214_3, hl214_1, hi214_1⟩ := at0_T53 HR0.out dt_
         cases e214
         have HR214_1 := mkA hi214_1
         have HC214_1 := mkA hl214_1
         clear hi214_1 hl214_1
         obtain ⟨hx214_0, hx214_1, hx214_2, hx214_3⟩ := b4_ HB.out hx214_0 hx214_1 hx214_2 hx214_3
         have p214 : (0 ≤ (0 : Int)) = True := eq_true (by omega)
         have q214 : (0 < (l0.length : Int)) = True := eq_true dt_
         have qi214 := qn_ q214
         try go_wp2
         replace HB := mkA (below_drew1 HB.out)
         obtain ⟨ad222, A222_1, c222_1, e222, hw222_0, hw222_1, hw222_2, hw222_3, hl222_1, hi222_1⟩ := at0_T53 HR0.out dt_
         obtain rfl : ad214 = ad222 := (by injection e222)
         have HR222_1 := mkA hi222_1
         have HC222_1 := mkA hl222_1
         clear hi222_1 hl222_1
         obtain ⟨hx222_0, hx222_1, hx222_2, hx222_3⟩ := b4_ HB.out hw222_0 hw222_1 hw222_2 hw222_3
         have p222 : (0 ≤ (0 : Int)) = True := eq_true (by omega)
         have q222 : (0 < (l0.length : Int)) = True := eq_true dt_
         have qi222 := qn_ q222
         obtain ⟨ad223, e223, hw223_0, hw223_1⟩ := at_T105 HR222_1.out x3_2 dt_ dt_
         cases e223
         obtain ⟨hx223_0, hx223_1⟩ := b2_ HB.out hw223_0 hw223_1
         have p223 : (0 ≤ (x3_2 : Int)) = True := eq_true dt_
         have q223 : (x3_2 < (((rd_T53 l0 0).f1).length : Int)) = True := eq_true dt_
         refine st_ 45 (fun w' => C_ hw222_0 w' ∧ C_ hw222_1 w' ∧ C_ hw222_2 w' ∧ C_ hw222_3 w' ∧ C_ hw223_0 w' ∧ C_ hw223_1 w') [] spec_l19Piece.tab6 spec_l19Piece.bits6 sp_ fun hHeld HT_ HW_ => ?_
         generalize wr.drew = w29 at HB HR222_1 hx222_0 hx222_1 hx222_2 hx222_3 hx223_0 hx223_1 hHeld ⊢
         refine a1_ 0 45 (h := a1_ 1 46 (h := a1_ 2 47 (h := a1_ 4 49 (h := tk_ 3 48 (h := a1_ 5 50 (h := a1_ 6 51 (h := tk_ 7 52 (h := ?_))))))))
         refine on_ 8 53 fun K hK => ?_
         refine go_ Try.func60 #[.int .i64 ((rd_T105 ((rd_T53 l0 0).f1) x3_2).f0), .int .i64 0, .int .i64 5] ?_
         with_reducible refine (spec_l00In.calls ((rd_T105 ((rd_T53 l0 0).f1) x3_2).f0) 0 5 false _ A13.out).mono ?_
         rintro e w' ⟨rfl, ⟨nd, rfl⟩⟩
         refine ⟨_, rfl, ?_⟩
         refine hK.out _ _ sp_ fun hHeld => ?_
         clear hK K
         refine nm_ 53 ?_
         refine a1_ 9 54 (h := a1_ 10 55 (h := a0_ 11 56 (h := a0_ 12 57 (h := a0_ 13 58 (h := a0_ 14 59 (h := a0_ 15 60 (h := a0_ 16 61 (h := a0_ 17 62 (h := a0_ 18 63 (h := a0_ 19 64 (h := a0_ 20 65 (h := a1_ 21 66 (h := a1_ 22 67 (h := a0_ 23 68 (h := a0_ 24 69 (h := a0_ 25 70 (h := a0_ 26 71 (h := a0_ 27 72 (h := a0_ 28 73 (h := a0_ 29 74 (h := a0_ 30 75 (h := a0_ 31 76 (h := a0_ 32 77 (h := a0_ 33 78 (h := a0_ 34 79 (h := a0_ 35 80 (h := a0_ 36 81 (h := a0_ 37 82 (h := a0_ 38 83 (h := a0_ 39 84 (h := a0_ 40 85 (h := a0_ 41 86 (h := a0_ 42 87 (h := a0_ 43 88 (h := a1_ 44 89 (h := ?_))))))))))))))))))))))))))))))))))))
         refine dn_ ?_
         try go_wp2
         go_ret
         exact ⟨re_, bs0_ HB.out⟩
       subst c14
       rw [if_pos rfl] at H
       revert H
       refine ob_ fun t227 A15 => ?_
       intro H
       by_cases c16 : t227 = true
       rotate_left
       · replace c16 := Bool.eq_false_iff.mpr c16
         subst c16
         rw [if_neg Bool.false_ne_true] at H
         obtain rfl := Option.some.inj H
         obtain ⟨ad214, A214_1, c214_1, e214, hx214_0, hx214_1, hx214_2, hx214_3, hl214_1, hi214_1⟩ := at0_T53 HR0.out dt_
         cases e214
         have HR214_1 := mkA hi214_1
         have HC214_1 := mkA hl214_1
         clear hi214_1 hl214_1
         obtain ⟨hx214_0, hx214_1, hx214_2, hx214_3⟩ := b4_ HB.out hx214_0 hx214_1 hx214_2 hx214_3
         have p214 : (0 ≤ (0 : Int)) = True := eq_true (by omega)
         have q214 : (0 < (l0.length : Int)) = True := eq_true dt_
         have qi214 := qn_ q214
         try go_wp2
         replace HB := mkA (below_drew1 HB.out)
         obtain ⟨ad222, A222_1, c222_1, e222, hw222_0, hw222_1, hw222_2, hw222_3, hl222_1, hi222_1⟩ := at0_T53 HR0.out dt_
         obtain rfl : ad214 = ad222 := (by injection e222)
         have HR222_1 := mkA hi222_1
         have HC222_1 := mkA hl222_1
         clear hi222_1 hl222_1
         obtain ⟨hx222_0, hx222_1, hx222_2, hx222_3⟩ := b4_ HB.out hw222_0 hw222_1 hw222_2 hw222_3
         have p222 : (0 ≤ (0 : Int)) = True := eq_true (by omega)
         have q222 : (0 < (l0.length : Int)) = True := eq_true dt_
         have qi222 := qn_ q222
         obtain ⟨ad223, e223, hw223_0, hw223_1⟩ := at_T105 HR222_1.out x3_2 dt_ dt_
         cases e223
         obtain ⟨hx223_0, hx223_1⟩ := b2_ HB.out hw223_0 hw223_1
         have p223 : (0 ≤ (x3_2 : Int)) = True := eq_true dt_
         have q223 : (x3_2 < (((rd_T53 l0 0).f1).length : Int)) = True := eq_true dt_
         obtain ⟨ad225, A225_1, c225_1, e225, hw225_0, hw225_1, hw225_2, hw225_3, hl225_1, hi225_1⟩ := at0_T53 HR0.out dt_
         obtain rfl : ad214 = ad225 := (by injection e225)
         have HR225_1 := mkA hi225_1
         have HC225_1 := mkA hl225_1
         clear hi225_1 hl225_1
         obtain ⟨hx225_0, hx225_1, hx225_2, hx225_3⟩ := b4_ HB.out hw225_0 hw225_1 hw225_2 hw225_3
         have p225 : (0 ≤ (0 : Int)) = True := eq_true (by omega)
         have q225 : (0 < (l0.length : Int)) = True := eq_true dt_
         have qi225 := qn_ q225
         have ea_ := Option.some.inj (hx222_1.symm.trans hx225_1)
         injection ea_ with ea_ en_ ec_
         subst ea_
         subst ec_
         clear en_
         obtain ⟨ad226, e226, hw226_0, hw226_1⟩ := at_T105 HR225_1.out x3_2 dt_ dt_
         obtain rfl : ad223 = ad226 := (by injection e226)
         obtain ⟨hx226_0, hx226_1⟩ := b2_ HB.out hw226_0 hw226_1
         have p226 : (0 ≤ (x3_2 : Int)) = True := eq_true dt_
         have q226 : (x3_2 < (((rd_T53 l0 0).f1).length : Int)) = True := eq_true dt_
         refine st_ 45 (fun w' => C_ hw222_0 w' ∧ C_ hw222_1 w' ∧ C_ hw222_2 w' ∧ C_ hw222_3 w' ∧ C_ hw223_0 w' ∧ C_ hw223_1 w' ∧ C_ hw225_0 w' ∧ C_ hw225_1 w' ∧ C_ hw225_2 w' ∧ C_ hw225_3 w' ∧ C_ hw226_0 w' ∧ C_ hw226_1 w') [] spec_l19Piece.tab6 spec_l19Piece.bits6 sp_ fun hHeld HT_ HW_ => ?_
         generalize wr.drew = w28 at HB HR222_1 HR225_1 hx222_0 hx222_1 hx222_2 hx222_3 hx223_0 hx223_1 hx225_0 hx225_1 hx225_2 hx225_3 hx226_0 hx226_1 hHeld ⊢
         refine a1_ 0 45 (h := a1_ 1 46 (h := a1_ 2 47 (h := a1_ 4 49 (h := tk_ 3 48 (h := a1_ 5 50 (h := a1_ 6 51 (h := tk_ 7 52 (h := ?_))))))))
         refine on_ 8 53 fun K hK => ?_
         refine go_ Try.func60 #[.int .i64 ((rd_T105 ((rd_T53 l0 0).f1) x3_2).f0), .int .i64 0, .int .i64 5] ?_
         with_reducible refine (spec_l00In.calls ((rd_T105 ((rd_T53 l0 0).f1) x3_2).f0) 0 5 true _ A13.out).mono ?_
         rintro e w' ⟨rfl, ⟨nd, rfl⟩⟩
         refine ⟨_, rfl, ?_⟩
         refine hK.out _ _ sp_ fun hHeld => ?_
         clear hK K
         refine nm_ 53 ?_
         refine a1_ 9 54 (h := a1_ 10 55 (h := a1_ 11 56 (h := a1_ 12 57 (h := a1_ 13 58 (h := a1_ 15 60 (h := tk_ 14 59 (h := a1_ 16 61 (h := a1_ 17 62 (h := tk_ 18 63 (h := ?_))))))))))
         refine on_ 19 64 fun K hK => ?_
         refine go_ Try.func60 #[.int .i64 ((rd_T105 ((rd_T53 l0 0).f1) x3_2).f1), .int .i64 0, .int .i64 5] ?_
         with_reducible refine (spec_l00In.calls ((rd_T105 ((rd_T53 l0 0).f1) x3_2).f1) 0 5 false _ A15.out).mono ?_
         rintro e w' ⟨rfl, ⟨nd, rfl⟩⟩
         refine ⟨_, rfl, ?_⟩
         refine hK.out _ _ sp_ fun hHeld => ?_
         clear hK K
         refine nm_ 64 ?_
         refine a1_ 20 65 (h := a1_ 21 66 (h := a1_ 22 67 (h := a0_ 23 68 (h := a0_ 24 69 (h := a0_ 25 70 (h := a0_ 26 71 (h := a0_ 27 72 (h := a0_ 28 73 (h := a0_ 29 74 (h := a0_ 30 75 (h := a0_ 31 76 (h := a0_ 32 77 (h := a0_ 33 78 (h := a0_ 34 79 (h := a0_ 35 80 (h := a0_ 36 81 (h := a0_ 37 82 (h := a0_ 38 83 (h := a0_ 39 84 (h := a0_ 40 85 (h := a0_ 41 86 (h := a0_ 42 87 (h := a0_ 43 88 (h := a1_ 44 89 (h := ?_)))))))))))))))))))))))))
         refine dn_ ?_
         try go_wp2
         go_ret
         exact ⟨re_, bs0_ HB.out⟩
       subst c16
       rw [if_pos rfl] at H
       by_cases c17 : x3_2 > 0
       rotate_left
       · rw [if_neg c17] at H
         have c17b0 := decide_eq_false c17
         clear c17
         have H' := mkA H
         clear H
         obtain ⟨ad214, A214_1, c214_1, e214, hx214_0, hx214_1, hx214_2, hx214_3, hl214_1, hi214_1⟩ := at0_T53 HR0.out dt_
         cases e214
         have HR214_1 := mkA hi214_1
         have HC214_1 := mkA hl214_1
         clear hi214_1 hl214_1
         obtain ⟨hx214_0, hx214_1, hx214_2, hx214_3⟩ := b4_ HB.out hx214_0 hx214_1 hx214_2 hx214_3
         have p214 : (0 ≤ (0 : Int)) = True := eq_true (by omega)
         have q214 : (0 < (l0.length : Int)) = True := eq_true dt_
         have qi214 := qn_ q214
         try go_wp2
         replace HB := mkA (below_drew1 HB.out)
         obtain ⟨ad222, A222_1, c222_1, e222, hw222_0, hw222_1, hw222_2, hw222_3, hl222_1, hi222_1⟩ := at0_T53 HR0.out dt_
         obtain rfl : ad214 = ad222 := (by injection e222)
         have HR222_1 := mkA hi222_1
         have HC222_1 := mkA hl222_1
         clear hi222_1 hl222_1
         obtain ⟨hx222_0, hx222_1, hx222_2, hx222_3⟩ := b4_ HB.out hw222_0 hw222_1 hw222_2 hw222_3
         have p222 : (0 ≤ (0 : Int)) = True := eq_true (by omega)
         have q222 : (0 < (l0.length : Int)) = True := eq_true dt_
         have qi222 := qn_ q222
         obtain ⟨ad223, e223, hw223_0, hw223_1⟩ := at_T105 HR222_1.out x3_2 dt_ dt_
         cases e223
         obtain ⟨hx223_0, hx223_1⟩ := b2_ HB.out hw223_0 hw223_1
         have p223 : (0 ≤ (x3_2 : Int)) = True := eq_true dt_
         have q223 : (x3_2 < (((rd_T53 l0 0).f1).length : Int)) = True := eq_true dt_
         obtain ⟨ad225, A225_1, c225_1, e225, hw225_0, hw225_1, hw225_2, hw225_3, hl225_1, hi225_1⟩ := at0_T53 HR0.out dt_
         obtain rfl : ad214 = ad225 := (by injection e225)
         have HR225_1 := mkA hi225_1
         have HC225_1 := mkA hl225_1
         clear hi225_1 hl225_1
         obtain ⟨hx225_0, hx225_1, hx225_2, hx225_3⟩ := b4_ HB.out hw225_0 hw225_1 hw225_2 hw225_3
         have p225 : (0 ≤ (0 : Int)) = True := eq_true (by omega)
         have q225 : (0 < (l0.length : Int)) = True := eq_true dt_
         have qi225 := qn_ q225
         have ea_ := Option.some.inj (hx222_1.symm.trans hx225_1)
         injection ea_ with ea_ en_ ec_
         subst ea_
         subst ec_
         clear en_
         obtain ⟨ad226, e226, hw226_0, hw226_1⟩ := at_T105 HR225_1.out x3_2 dt_ dt_
         obtain rfl : ad223 = ad226 := (by injection e226)
         obtain ⟨hx226_0, hx226_1⟩ := b2_ HB.out hw226_0 hw226_1
         have p226 : (0 ≤ (x3_2 : Int)) = True := eq_true dt_
         have q226 : (x3_2 < (((rd_T53 l0 0).f1).length : Int)) = True := eq_true dt_
         refine st_ 45 (fun w' => C_ hw222_0 w' ∧ C_ hw222_1 w' ∧ C_ hw222_2 w' ∧ C_ hw222_3 w' ∧ C_ hw223_0 w' ∧ C_ hw223_1 w' ∧ C_ hw225_0 w' ∧ C_ hw225_1 w' ∧ C_ hw225_2 w' ∧ C_ hw225_3 w' ∧ C_ hw226_0 w' ∧ C_ hw226_1 w') [] spec_l19Piece.tab6 spec_l19Piece.bits6 sp_ fun hHeld HT_ HW_ => ?_
         generalize wr.drew = w27 at HB HR222_1 HR225_1 hx222_0 hx222_1 hx222_2 hx222_3 hx223_0 hx223_1 hx225_0 hx225_1 hx225_2 hx225_3 hx226_0 hx226_1 hHeld ⊢
         refine a1_ 0 45 (h := a1_ 1 46 (h := a1_ 2 47 (h := a1_ 4 49 (h := tk_ 3 48 (h := a1_ 5 50 (h := a1_ 6 51 (h := tk_ 7 52 (h := ?_))))))))
         refine on_ 8 53 fun K hK => ?_
         refine go_ Try.func60 #[.int .i64 ((rd_T105 ((rd_T53 l0 0).f1) x3_2).f0), .int .i64 0, .int .i64 5] ?_
         with_reducible refine (spec_l00In.calls ((rd_T105 ((rd_T53 l0 0).f1) x3_2).f0) 0 5 true _ A13.out).mono ?_
         rintro e w' ⟨rfl, ⟨nd, rfl⟩⟩
         refine ⟨_, rfl, ?_⟩
         refine hK.out _ _ sp_ fun hHeld => ?_
         clear hK K
         refine nm_ 53 ?_
         refine a1_ 9 54 (h := a1_ 10 55 (h := a1_ 11 56 (h := a1_ 12 57 (h := a1_ 13 58 (h := a1_ 15 60 (h := tk_ 14 59 (h := a1_ 16 61 (h := a1_ 17 62 (h := tk_ 18 63 (h := ?_))))))))))
         refine on_ 19 64 fun K hK => ?_
         refine go_ Try.func60 #[.int .i64 ((rd_T105 ((rd_T53 l0 0).f1) x3_2).f1), .int .i64 0, .int .i64 5] ?_
         with_reducible refine (spec_l00In.calls ((rd_T105 ((rd_T53 l0 0).f1) x3_2).f1) 0 5 true _ A15.out).mono ?_
         rintro e w' ⟨rfl, ⟨nd, rfl⟩⟩
         refine ⟨_, rfl, ?_⟩
         refine hK.out _ _ sp_ fun hHeld => ?_
         clear hK K
         refine nm_ 64 ?_
         refine a1_ 20 65 (h := a1_ 21 66 (h := a1_ 22 67 (h := a1_ 23 68 (h := a1_ 24 69 (h := a1_ 25 70 (h := a0_ 26 71 (h := a0_ 27 72 (h := a0_ 28 73 (h := a0_ 29 74 (h := a0_ 30 75 (h := a0_ 31 76 (h := a0_ 32 77 (h := a0_ 33 78 (h := a0_ 34 79 (h := a0_ 35 80 (h := a0_ 36 81 (h := a0_ 37 82 (h := a0_ 38 83 (h := a0_ 39 84 (h := a0_ 40 85 (h := a0_ 41 86 (h := a0_ 42 87 (h := a1_ 43 88 (h := a1_ 44 89 (h := ?_)))))))))))))))))))))))))
         refine dn_ ?_
         try go_wp2
         go_roundg k2
         case measure => have := HJ1.out; have := HK2.out; omega
         case rel => exact ⟨(wrap64 (x3_2 + 1)), rf_, H', ⟨on2_ HJ1.out HK2.out⟩, ⟨bs0_ HB.out⟩⟩
       rw [if_pos c17] at H
       have c17b0 := decide_eq_true c17
       clear c17
       obtain ⟨ji18, hji18⟩ : ∃ j_ : Int, (wrap64 (x3_2 - 1)) = j_ := ⟨_, rfl⟩
       replace H : (if 0 ≤ (ji18) then (if (ji18) < (((rd_T53 l0 0).f1).length : Int) then ((spec_l19Before.f ((rd_T105 ((rd_T53 l0 0).f1) (ji18)).f0) ((rd_T105 ((rd_T53 l0 0).f1) (ji18)).f1) ((rd_T105 ((rd_T53 l0 0).f1) x3_2).f0) ((rd_T105 ((rd_T53 l0 0).f1) x3_2).f1)).bind fun t232 => (if t232 = true then (spec_l19Piece.l0 k2 (wrap64 (x3_2 + 1)) l0) else (some false))) else (none)) else (none)) = some r := by first | (rw [hji18] at H; exact H) | (simp only [hji18] at H ⊢; exact H)
       (try rw [hji18] at A13)
       (try rw [hji18] at A15)
       have hji18w : (IntKind.i64.wrap (x3_2 - 1)) = ji18 := (i64_w _).trans hji18
       revert H
       refine ng_ fun c19 => ng_ fun c20 => ob_ fun t232 A21 => ?_
       intro H
       have c19b0 := decide_eq_true c19
       clear c19
       have c20b0 := decide_eq_true c20
       clear c20
       by_cases c22 : t232 = true
       rotate_left
       · replace c22 := Bool.eq_false_iff.mpr c22
         subst c22
         rw [if_neg Bool.false_ne_true] at H
         obtain rfl := Option.some.inj H
         obtain ⟨ad214, A214_1, c214_1, e214, hx214_0, hx214_1, hx214_2, hx214_3, hl214_1, hi214_1⟩ := at0_T53 HR0.out dt_
         cases e214
         have HR214_1 := mkA hi214_1
         have HC214_1 := mkA hl214_1
         clear hi214_1 hl214_1
         obtain ⟨hx214_0, hx214_1, hx214_2, hx214_3⟩ := b4_ HB.out hx214_0 hx214_1 hx214_2 hx214_3
         have p214 : (0 ≤ (0 : Int)) = True := eq_true (by omega)
         have q214 : (0 < (l0.length : Int)) = True := eq_true dt_
         have qi214 := qn_ q214
         try go_wp2
         replace HB := mkA (below_drew1 HB.out)
         obtain ⟨ad222, A222_1, c222_1, e222, hw222_0, hw222_1, hw222_2, hw222_3, hl222_1, hi222_1⟩ := at0_T53 HR0.out dt_
         obtain rfl : ad214 = ad222 := (by injection e222)
         have HR222_1 := mkA hi222_1
         have HC222_1 := mkA hl222_1
         clear hi222_1 hl222_1
         obtain ⟨hx222_0, hx222_1, hx222_2, hx222_3⟩ := b4_ HB.out hw222_0 hw222_1 hw222_2 hw222_3
         have p222 : (0 ≤ (0 : Int)) = True := eq_true (by omega)
         have q222 : (0 < (l0.length : Int)) = True := eq_true dt_
         have qi222 := qn_ q222
         obtain ⟨ad223, e223, hw223_0, hw223_1⟩ := at_T105 HR222_1.out x3_2 dt_ dt_
         cases e223
         obtain ⟨hx223_0, hx223_1⟩ := b2_ HB.out hw223_0 hw223_1
         have p223 : (0 ≤ (x3_2 : Int)) = True := eq_true dt_
         have q223 : (x3_2 < (((rd_T53 l0 0).f1).length : Int)) = True := eq_true dt_
         obtain ⟨ad225, A225_1, c225_1, e225, hw225_0, hw225_1, hw225_2, hw225_3, hl225_1, hi225_1⟩ := at0_T53 HR0.out dt_
         obtain rfl : ad214 = ad225 := (by injection e225)
         have HR225_1 := mkA hi225_1
         have HC225_1 := mkA hl225_1
         clear hi225_1 hl225_1
         obtain ⟨hx225_0, hx225_1, hx225_2, hx225_3⟩ := b4_ HB.out hw225_0 hw225_1 hw225_2 hw225_3
         have p225 : (0 ≤ (0 : Int)) = True := eq_true (by omega)
         have q225 : (0 < (l0.length : Int)) = True := eq_true dt_
         have qi225 := qn_ q225
         have ea_ := Option.some.inj (hx222_1.symm.trans hx225_1)
         injection ea_ with ea_ en_ ec_
         subst ea_
         subst ec_
         clear en_
         obtain ⟨ad226, e226, hw226_0, hw226_1⟩ := at_T105 HR225_1.out x3_2 dt_ dt_
         obtain rfl : ad223 = ad226 := (by injection e226)
         obtain ⟨hx226_0, hx226_1⟩ := b2_ HB.out hw226_0 hw226_1
         have p226 : (0 ≤ (x3_2 : Int)) = True := eq_true dt_
         have q226 : (x3_2 < (((rd_T53 l0 0).f1).length : Int)) = True := eq_true dt_
         obtain ⟨ad228, A228_1, c228_1, e228, hw228_0, hw228_1, hw228_2, hw228_3, hl228_1, hi228_1⟩ := at0_T53 HR0.out dt_
         obtain rfl : ad214 = ad228 := (by injection e228)
         have HR228_1 := mkA hi228_1
         have HC228_1 := mkA hl228_1
         clear hi228_1 hl228_1
         obtain ⟨hx228_0, hx228_1, hx228_2, hx228_3⟩ := b4_ HB.out hw228_0 hw228_1 hw228_2 hw228_3
         have p228 : (0 ≤ (0 : Int)) = True := eq_true (by omega)
         have q228 : (0 < (l0.length : Int)) = True := eq_true dt_
         have qi228 := qn_ q228
         have ea_ := Option.some.inj (hx222_1.symm.trans hx228_1)
         injection ea_ with ea_ en_ ec_
         subst ea_
         subst ec_
         clear en_
         obtain ⟨ad229, e229, hw229_0, hw229_1⟩ := at_T105 HR228_1.out (ji18) dt_ dt_
         obtain rfl : ad223 = ad229 := (by injection e229)
         obtain ⟨hx229_0, hx229_1⟩ := b2_ HB.out hw229_0 hw229_1
         have p229 : (0 ≤ ((ji18) : Int)) = True := eq_true dt_
         have q229 : ((ji18) < (((rd_T53 l0 0).f1).length : Int)) = True := eq_true dt_
         obtain ⟨ad230, A230_1, c230_1, e230, hw230_0, hw230_1, hw230_2, hw230_3, hl230_1, hi230_1⟩ := at0_T53 HR0.out dt_
         obtain rfl : ad214 = ad230 := (by injection e230)
         have HR230_1 := mkA hi230_1
         have HC230_1 := mkA hl230_1
         clear hi230_1 hl230_1
         obtain ⟨hx230_0, hx230_1, hx230_2, hx230_3⟩ := b4_ HB.out hw230_0 hw230_1 hw230_2 hw230_3
         have p230 : (0 ≤ (0 : Int)) = True := eq_true (by omega)
         have q230 : (0 < (l0.length : Int)) = True := eq_true dt_
         have qi230 := qn_ q230
         have ea_ := Option.some.inj (hx222_1.symm.trans hx230_1)
         injection ea_ with ea_ en_ ec_
         subst ea_
         subst ec_
         clear en_
         obtain ⟨ad231, e231, hw231_0, hw231_1⟩ := at_T105 HR230_1.out x3_2 dt_ dt_
         obtain rfl : ad223 = ad231 := (by injection e231)
         obtain ⟨hx231_0, hx231_1⟩ := b2_ HB.out hw231_0 hw231_1
         have p231 : (0 ≤ (x3_2 : Int)) = True := eq_true dt_
         have q231 : (x3_2 < (((rd_T53 l0 0).f1).length : Int)) = True := eq_true dt_
         refine st_ 45 (fun w' => C_ hw222_0 w' ∧ C_ hw222_1 w' ∧ C_ hw222_2 w' ∧ C_ hw222_3 w' ∧ C_ hw223_0 w' ∧ C_ hw223_1 w' ∧ C_ hw225_0 w' ∧ C_ hw225_1 w' ∧ C_ hw225_2 w' ∧ C_ hw225_3 w' ∧ C_ hw226_0 w' ∧ C_ hw226_1 w' ∧ C_ hw228_0 w' ∧ C_ hw228_1 w' ∧ C_ hw228_2 w' ∧ C_ hw228_3 w' ∧ C_ hw229_0 w' ∧ C_ hw229_1 w' ∧ C_ hw230_0 w' ∧ C_ hw230_1 w' ∧ C_ hw230_2 w' ∧ C_ hw230_3 w' ∧ C_ hw231_0 w' ∧ C_ hw231_1 w') [] spec_l19Piece.tab6 spec_l19Piece.bits6 sp_ fun hHeld HT_ HW_ => ?_
         generalize wr.drew = w25 at HB HR222_1 HR225_1 HR228_1 HR230_1 hx222_0 hx222_1 hx222_2 hx222_3 hx223_0 hx223_1 hx225_0 hx225_1 hx225_2 hx225_3 hx226_0 hx226_1 hx228_0 hx228_1 hx228_2 hx228_3 hx229_0 hx229_1 hx230_0 hx230_1 hx230_2 hx230_3 hx231_0 hx231_1 hHeld ⊢
         refine a1_ 0 45 (h := a1_ 1 46 (h := a1_ 2 47 (h := a1_ 4 49 (h := tk_ 3 48 (h := a1_ 5 50 (h := a1_ 6 51 (h := tk_ 7 52 (h := ?_))))))))
         refine on_ 8 53 fun K hK => ?_
         refine go_ Try.func60 #[.int .i64 ((rd_T105 ((rd_T53 l0 0).f1) x3_2).f0), .int .i64 0, .int .i64 5] ?_
         with_reducible refine (spec_l00In.calls ((rd_T105 ((rd_T53 l0 0).f1) x3_2).f0) 0 5 true _ A13.out).mono ?_
         rintro e w' ⟨rfl, ⟨nd, rfl⟩⟩
         refine ⟨_, rfl, ?_⟩
         refine hK.out _ _ sp_ fun hHeld => ?_
         clear hK K
         refine nm_ 53 ?_
         refine a1_ 9 54 (h := a1_ 10 55 (h := a1_ 11 56 (h := a1_ 12 57 (h := a1_ 13 58 (h := a1_ 15 60 (h := tk_ 14 59 (h := a1_ 16 61 (h := a1_ 17 62 (h := tk_ 18 63 (h := ?_))))))))))
         refine on_ 19 64 fun K hK => ?_
         refine go_ Try.func60 #[.int .i64 ((rd_T105 ((rd_T53 l0 0).f1) x3_2).f1), .int .i64 0, .int .i64 5] ?_
         with_reducible refine (spec_l00In.calls ((rd_T105 ((rd_T53 l0 0).f1) x3_2).f1) 0 5 true _ A15.out).mono ?_
         rintro e w' ⟨rfl, ⟨nd, rfl⟩⟩
         refine ⟨_, rfl, ?_⟩
         refine hK.out _ _ sp_ fun hHeld => ?_
         clear hK K
         refine nm_ 64 ?_
         refine a1_ 20 65 (h := a1_ 21 66 (h := a1_ 22 67 (h := a1_ 23 68 (h := a1_ 24 69 (h := a1_ 25 70 (h := a1_ 26 71 (h := a1_ 27 72 (h := a1_ 28 73 (h := a1_ 30 75 (h := a1_ 31 76 (h := a1_ 34 79 (h := a1_ 35 80 (h := a1_ 36 81 (h := a1_ 38 83 (h := tk_ 29 74 (h := a1_ 32 77 (h := tk_ 33 78 (h := tk_ 37 82 (h := a1_ 39 84 (h := tk_ 40 85 (h := ?_)))))))))))))))))))))
         refine on_ 41 86 fun K hK => ?_
         refine goes_ Try.func92 (by kernel_rfl) rfl #[.agg #[.int .i64 ((rd_T105 ((rd_T53 l0 0).f1) (ji18)).f0), .int .i64 ((rd_T105 ((rd_T53 l0 0).f1) (ji18)).f1)], .agg #[.int .i64 ((rd_T105 ((rd_T53 l0 0).f1) x3_2).f0), .int .i64 ((rd_T105 ((rd_T53 l0 0).f1) x3_2).f1)]] (by rfl) rfl rfl (by (try simp only [List.map_toArray, List.map_cons, List.map_nil]); first | done | (simp only [hji18]; rfl) | rfl | (simp only [List.length_drop, List.length_take]; rfl)) ?_
         with_reducible refine (spec_l19Before.calls ((rd_T105 ((rd_T53 l0 0).f1) (ji18)).f0) ((rd_T105 ((rd_T53 l0 0).f1) (ji18)).f1) ((rd_T105 ((rd_T53 l0 0).f1) x3_2).f0) ((rd_T105 ((rd_T53 l0 0).f1) x3_2).f1) false _ A21.out).mono ?_
         rintro e w26 ⟨rfl, hb⟩
         refine ⟨_, rfl, ?_⟩
         replace HB := mkA (below_step (bs0_ HB.out) hb)
         (try clear hb)
         (try clear hb2)
         (try clear hk)
         (try clear hi)
         refine hK.out _ _ sp_ fun hHeld => ?_
         clear hK K
         refine nm_ 86 ?_
         refine a1_ 42 87 (h := a1_ 43 88 (h := a1_ 44 89 (h := ?_)))
         refine dn_ ?_
         try go_wp2
         go_ret
         exact ⟨by first | rfl | (simp [errW_none, errW_some] <;> rfl) | (simp only [← hji18]; first | rfl | (simp [errW_none, errW_some] <;> rfl)) | (simp [*, errW_none, errW_some] <;> rfl), bs0_ HB.out⟩
       subst c22
       rw [if_pos rfl] at H
       have H' := mkA H
       clear H
       obtain ⟨ad214, A214_1, c214_1, e214, hx214_0, hx214_1, hx214_2, hx214_3, hl214_1, hi214_1⟩ := at0_T53 HR0.out dt_
       cases e214
       have HR214_1 := mkA hi214_1
       have HC214_1 := mkA hl214_1
       clear hi214_1 hl214_1
       obtain ⟨hx214_0, hx214_1, hx214_2, hx214_3⟩ := b4_ HB.out hx214_0 hx214_1 hx214_2 hx214_3
       have p214 : (0 ≤ (0 : Int)) = True := eq_true (by omega)
       have q214 : (0 < (l0.length : Int)) = True := eq_true dt_
       have qi214 := qn_ q214
       try go_wp2
       replace HB := mkA (below_drew1 HB.out)
       obtain ⟨ad222, A222_1, c222_1, e222, hw222_0, hw222_1, hw222_2, hw222_3, hl222_1, hi222_1⟩ := at0_T53 HR0.out dt_
       obtain rfl : ad214 = ad222 := (by injection e222)
       have HR222_1 := mkA hi222_1
       have HC222_1 := mkA hl222_1
       clear hi222_1 hl222_1
       obtain ⟨hx222_0, hx222_1, hx222_2, hx222_3⟩ := b4_ HB.out hw222_0 hw222_1 hw222_2 hw222_3
       have p222 : (0 ≤ (0 : Int)) = True := eq_true (by omega)
       have q222 : (0 < (l0.length : Int)) = True := eq_true dt_
       have qi222 := qn_ q222
       obtain ⟨ad223, e223, hw223_0, hw223_1⟩ := at_T105 HR222_1.out x3_2 dt_ dt_
       cases e223
       obtain ⟨hx223_0, hx223_1⟩ := b2_ HB.out hw223_0 hw223_1
       have p223 : (0 ≤ (x3_2 : Int)) = True := eq_true dt_
       have q223 : (x3_2 < (((rd_T53 l0 0).f1).length : Int)) = True := eq_true dt_
       obtain ⟨ad225, A225_1, c225_1, e225, hw225_0, hw225_1, hw225_2, hw225_3, hl225_1, hi225_1⟩ := at0_T53 HR0.out dt_
       obtain rfl : ad214 = ad225 := (by injection e225)
       have HR225_1 := mkA hi225_1
       have HC225_1 := mkA hl225_1
       clear hi225_1 hl225_1
       obtain ⟨hx225_0, hx225_1, hx225_2, hx225_3⟩ := b4_ HB.out hw225_0 hw225_1 hw225_2 hw225_3
       have p225 : (0 ≤ (0 : Int)) = True := eq_true (by omega)
       have q225 : (0 < (l0.length : Int)) = True := eq_true dt_
       have qi225 := qn_ q225
       have ea_ := Option.some.inj (hx222_1.symm.trans hx225_1)
       injection ea_ with ea_ en_ ec_
       subst ea_
       subst ec_
       clear en_
       obtain ⟨ad226, e226, hw226_0, hw226_1⟩ := at_T105 HR225_1.out x3_2 dt_ dt_
       obtain rfl : ad223 = ad226 := (by injection e226)
       obtain ⟨hx226_0, hx226_1⟩ := b2_ HB.out hw226_0 hw226_1
       have p226 : (0 ≤ (x3_2 : Int)) = True := eq_true dt_
       have q226 : (x3_2 < (((rd_T53 l0 0).f1).length : Int)) = True := eq_true dt_
       obtain ⟨ad228, A228_1, c228_1, e228, hw228_0, hw228_1, hw228_2, hw228_3, hl228_1, hi228_1⟩ := at0_T53 HR0.out dt_
       obtain rfl : ad214 = ad228 := (by injection e228)
       have HR228_1 := mkA hi228_1
       have HC228_1 := mkA hl228_1
       clear hi228_1 hl228_1
       obtain ⟨hx228_0, hx228_1, hx228_2, hx228_3⟩ := b4_ HB.out hw228_0 hw228_1 hw228_2 hw228_3
       have p228 : (0 ≤ (0 : Int)) = True := eq_true (by omega)
       have q228 : (0 < (l0.length : Int)) = True := eq_true dt_
       have qi228 := qn_ q228
       have ea_ := Option.some.inj (hx222_1.symm.trans hx228_1)
       injection ea_ with ea_ en_ ec_
       subst ea_
       subst ec_
       clear en_
       obtain ⟨ad229, e229, hw229_0, hw229_1⟩ := at_T105 HR228_1.out (ji18) dt_ dt_
       obtain rfl : ad223 = ad229 := (by injection e229)
       obtain ⟨hx229_0, hx229_1⟩ := b2_ HB.out hw229_0 hw229_1
       have p229 : (0 ≤ ((ji18) : Int)) = True := eq_true dt_
       have q229 : ((ji18) < (((rd_T53 l0 0).f1).length : Int)) = True := eq_true dt_
       obtain ⟨ad230, A230_1, c230_1, e230, hw230_0, hw230_1, hw230_2, hw230_3, hl230_1, hi230_1⟩ := at0_T53 HR0.out dt_
       obtain rfl : ad214 = ad230 := (by injection e230)
       have HR230_1 := mkA hi230_1
       have HC230_1 := mkA hl230_1
       clear hi230_1 hl230_1
       obtain ⟨hx230_0, hx230_1, hx230_2, hx230_3⟩ := b4_ HB.out hw230_0 hw230_1 hw230_2 hw230_3
       have p230 : (0 ≤ (0 : Int)) = True := eq_true (by omega)
       have q230 : (0 < (l0.length : Int)) = True := eq_true dt_
       have qi230 := qn_ q230
       have ea_ := Option.some.inj (hx222_1.symm.trans hx230_1)
       injection ea_ with ea_ en_ ec_
       subst ea_
       subst ec_
       clear en_
       obtain ⟨ad231, e231, hw231_0, hw231_1⟩ := at_T105 HR230_1.out x3_2 dt_ dt_
       obtain rfl : ad223 = ad231 := (by injection e231)
       obtain ⟨hx231_0, hx231_1⟩ := b2_ HB.out hw231_0 hw231_1
       have p231 : (0 ≤ (x3_2 : Int)) = True := eq_true dt_
       have q231 : (x3_2 < (((rd_T53 l0 0).f1).length : Int)) = True := eq_true dt_
       refine st_ 45 (fun w' => C_ hw222_0 w' ∧ C_ hw222_1 w' ∧ C_ hw222_2 w' ∧ C_ hw222_3 w' ∧ C_ hw223_0 w' ∧ C_ hw223_1 w' ∧ C_ hw225_0 w' ∧ C_ hw225_1 w' ∧ C_ hw225_2 w' ∧ C_ hw225_3 w' ∧ C_ hw226_0 w' ∧ C_ hw226_1 w' ∧ C_ hw228_0 w' ∧ C_ hw228_1 w' ∧ C_ hw228_2 w' ∧ C_ hw228_3 w' ∧ C_ hw229_0 w' ∧ C_ hw229_1 w' ∧ C_ hw230_0 w' ∧ C_ hw230_1 w' ∧ C_ hw230_2 w' ∧ C_ hw230_3 w' ∧ C_ hw231_0 w' ∧ C_ hw231_1 w') [] spec_l19Piece.tab6 spec_l19Piece.bits6 sp_ fun hHeld HT_ HW_ => ?_
       generalize wr.drew = w23 at HB HR222_1 HR225_1 HR228_1 HR230_1 hx222_0 hx222_1 hx222_2 hx222_3 hx223_0 hx223_1 hx225_0 hx225_1 hx225_2 hx225_3 hx226_0 hx226_1 hx228_0 hx228_1 hx228_2 hx228_3 hx229_0 hx229_1 hx230_0 hx230_1 hx230_2 hx230_3 hx231_0 hx231_1 hHeld ⊢
       refine a1_ 0 45 (h := a1_ 1 46 (h := a1_ 2 47 (h := a1_ 4 49 (h := tk_ 3 48 (h := a1_ 5 50 (h := a1_ 6 51 (h := tk_ 7 52 (h := ?_))))))))
       refine on_ 8 53 fun K hK => ?_
       refine go_ Try.func60 #[.int .i64 ((rd_T105 ((rd_T53 l0 0).f1) x3_2).f0), .int .i64 0, .int .i64 5] ?_
       with_reducible refine (spec_l00In.calls ((rd_T105 ((rd_T53 l0 0).f1) x3_2).f0) 0 5 true _ A13.out).mono ?_
       rintro e w' ⟨rfl, ⟨nd, rfl⟩⟩
       refine ⟨_, rfl, ?_⟩
       refine hK.out _ _ sp_ fun hHeld => ?_
       clear hK K
       refine nm_ 53 ?_
       refine a1_ 9 54 (h := a1_ 10 55 (h := a1_ 11 56 (h := a1_ 12 57 (h := a1_ 13 58 (h := a1_ 15 60 (h := tk_ 14 59 (h := a1_ 16 61 (h := a1_ 17 62 (h := tk_ 18 63 (h := ?_))))))))))
       refine on_ 19 64 fun K hK => ?_
       refine go_ Try.func60 #[.int .i64 ((rd_T105 ((rd_T53 l0 0).f1) x3_2).f1), .int .i64 0, .int .i64 5] ?_
       with_reducible refine (spec_l00In.calls ((rd_T105 ((rd_T53 l0 0).f1) x3_2).f1) 0 5 true _ A15.out).mono ?_
       rintro e w' ⟨rfl, ⟨nd, rfl⟩⟩
       refine ⟨_, rfl, ?_⟩
       refine hK.out _ _ sp_ fun hHeld => ?_
       clear hK K
       refine nm_ 64 ?_
       refine a1_ 20 65 (h := a1_ 21 66 (h := a1_ 22 67 (h := a1_ 23 68 (h := a1_ 24 69 (h := a1_ 25 70 (h := a1_ 26 71 (h := a1_ 27 72 (h := a1_ 28 73 (h := a1_ 30 75 (h := a1_ 31 76 (h := a1_ 34 79 (h := a1_ 35 80 (h := a1_ 36 81 (h := a1_ 38 83 (h := tk_ 29 74 (h := a1_ 32 77 (h := tk_ 33 78 (h := tk_ 37 82 (h := a1_ 39 84 (h := tk_ 40 85 (h := ?_)))))))))))))))))))))
       refine on_ 41 86 fun K hK => ?_
       refine goes_ Try.func92 (by kernel_rfl) rfl #[.agg #[.int .i64 ((rd_T105 ((rd_T53 l0 0).f1) (ji18)).f0), .int .i64 ((rd_T105 ((rd_T53 l0 0).f1) (ji18)).f1)], .agg #[.int .i64 ((rd_T105 ((rd_T53 l0 0).f1) x3_2).f0), .int .i64 ((rd_T105 ((rd_T53 l0 0).f1) x3_2).f1)]] (by rfl) rfl rfl (by (try simp only [List.map_toArray, List.map_cons, List.map_nil]); first | done | (simp only [hji18]; rfl) | rfl | (simp only [List.length_drop, List.length_take]; rfl)) ?_
       with_reducible refine (spec_l19Before.calls ((rd_T105 ((rd_T53 l0 0).f1) (ji18)).f0) ((rd_T105 ((rd_T53 l0 0).f1) (ji18)).f1) ((rd_T105 ((rd_T53 l0 0).f1) x3_2).f0) ((rd_T105 ((rd_T53 l0 0).f1) x3_2).f1) true _ A21.out).mono ?_
       rintro e w24 ⟨rfl, hb⟩
       refine ⟨_, rfl, ?_⟩
       replace HB := mkA (below_step (bs0_ HB.out) hb)
       (try clear hb)
       (try clear hb2)
       (try clear hk)
       (try clear hi)
       refine hK.out _ _ sp_ fun hHeld => ?_
       clear hK K
       refine nm_ 86 ?_
       refine a1_ 42 87 (h := a1_ 43 88 (h := a1_ 44 89 (h := ?_)))
       refine dn_ ?_
       try go_wp2
       go_roundg k2
       case measure => have := HJ1.out; have := HK2.out; omega
       case rel => exact ⟨(wrap64 (x3_2 + 1)), rf_, H', ⟨on2_ HJ1.out HK2.out⟩, ⟨bs0_ HB.out⟩⟩
end Go.Proofs.Ytakagkflgkoiiaa.GFnExactIsCover
