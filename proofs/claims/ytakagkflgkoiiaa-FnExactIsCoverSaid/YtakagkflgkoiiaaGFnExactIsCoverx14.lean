-- Written by the session's own program (gen.py) out of the translation's print. Lean checks it.
import Derived.Test.YtakagkflgkoiiaaQ
import Derived.Test.YtakagkflgkoiiaaGFnExactIsCoverx0
import Derived.Test.YtakagkflgkoiiaaGFnExactIsCoverx5
import Derived.Test.YtakagkflgkoiiaaGFnExactIsCoverx13
namespace Go.Proofs.Ytakagkflgkoiiaa.GFnExactIsCover
open Go.RowKit Go.Proofs.YtakagkflgkoiiaaW.PrintWords Go.Proofs.YtakagkflgkoiiaaW.PrintLast Go.Proofs.YtakagkflgkoiiaaW.PrintMore
open List renaming setIfInBounds_toArray → sA, set_cons_zero → sB, set_cons_succ → sC
open Go.Proofs.YtakagkflgkoiiaaW.PrintWords.Aside0 renaming mk → mkA
open Go.Proofs.YtakagkflgkoiiaaX (dt_ bc_ p0_ p1_ bl_ cb_ bs0_ bs1_ bs2_ bs3_ bs4_ bs5_ bs6_ bs7_ bs8_ bs9_ bs10_ bs11_ bs12_)
open Go.Proofs.YtakagkflgkoiiaaQ
attribute [local go_sem] max2_int min2_int max_two min_two max_three min_three max_four min_four 
set_option linter.unusedVariables false
set_option linter.unusedSimpArgs false

/-! ### spec_l19Laid: function 81 -/
mutual
def spec_l19Laid.l0 : Nat → List (S53) → List (S109) → List Int → Int → List (S27) → Option (Bool)
  | 0, _, _, _, _, _ => none
  | k + 1, x1, x2, x7, x8, x960 => if x8 < (x2.length : Int) then (if 0 ≤ x8 then ((spec_l00In.f ((rd_T109 x2 x8).f0) 0 (wrap64 ((x1.length : Int) - 1))).bind fun t340 => (if t340 = true then (if 0 < (x960.length : Int) then ((spec_l00In.f ((rd_T109 x2 x8).f1) 0 (wrap64 (((rd_T27 x960 0).f0) - 1))).bind fun t343 => (if t343 = true then ((spec_l00In.f ((rd_T109 x2 x8).f2) 0 (wrap64 (((rd_T27 x960 0).f1) - 1))).bind fun t346 => (if t346 = true then (if 0 ≤ ((rd_T109 x2 x8).f0) then (if ((rd_T109 x2 x8).f0) < (x1.length : Int) then ((spec_l19Turns.f k [rd_T53 x1 ((rd_T109 x2 x8).f0)]).bind fun t348 => ((spec_l00Has.f k t348 ((rd_T109 x2 x8).f3)).bind fun t352 => (spec_l19Laid.j1 k x1 x2 x7 x8 ((rd_T109 x2 x8).f0) (!t352) x960))) else (none)) else (none)) else (spec_l19Laid.j1 k x1 x2 x7 x8 ((rd_T109 x2 x8).f0) true x960))) else (spec_l19Laid.j1 k x1 x2 x7 x8 ((rd_T109 x2 x8).f0) true x960))) else (none)) else (spec_l19Laid.j1 k x1 x2 x7 x8 ((rd_T109 x2 x8).f0) true x960))) else (none)) else (some true)
def spec_l19Laid.j1 : Nat → List (S53) → List (S109) → List Int → Int → Int → Bool → List (S27) → Option (Bool)
  | 0, _, _, _, _, _, _, _ => none
  | k + 1, x1, x2, x7, x8, x9, x72, x960 => if x72 = true then (some false) else (if 0 ≤ x9 then (if x9 < (x7.length : Int) then ((some (x7.set (x9 : Int).toNat (wrap64 ((rd x7 x9) + 1)) : List Int)).bind fun y354 => (if x9 < (x1.length : Int) then (if (rd y354 x9) > ((rd_T53 x1 x9).f2) then (some false) else (if 0 ≤ x8 then (if x8 < (x2.length : Int) then ((spec_l19Cells.f k [rd_T53 x1 x9] ((rd_T109 x2 x8).f1) ((rd_T109 x2 x8).f2) ((rd_T109 x2 x8).f3)).bind fun t361 => (spec_l19Laid.l1 k x1 x2 y354 x8 t361 0 x960)) else (none)) else (none))) else (none))) else (none)) else (none))
def spec_l19Laid.l1 : Nat → List (S53) → List (S109) → List Int → Int → List (S105) → Int → List (S27) → Option (Bool)
  | 0, _, _, _, _, _, _, _ => none
  | k + 1, x1, x2, x7, x8, x10, x11, x960 => if x11 < (x10.length : Int) then (if 0 ≤ x11 then (if 0 < (x960.length : Int) then (if ((rd_T105 x10 x11).f0) ≥ ((rd_T27 x960 0).f0) then (some false) else (if ((rd_T105 x10 x11).f1) ≥ ((rd_T27 x960 0).f1) then (some false) else (spec_l19Laid.l1 k x1 x2 x7 x8 x10 (wrap64 (x11 + 1)) x960))) else (none)) else (none)) else (spec_l19Laid.l0 k x1 x2 x7 (wrap64 (x8 + 1)) x960)
end
def spec_l19Laid.f (k : Nat) (l0 : List (S27)) (l1 : List (S53)) (l2 : List (S109)) : Option (Bool) := if 0 ≤ (l1.length : Int) then (if ((l1.length : Int) : Int).toNat ≤ 35184372088832 then (spec_l19Laid.l0 k l1 l2 (List.replicate ((l1.length : Int) : Int).toNat 0) 0 l0) else (none)) else (none)
def spec_l19Laid.T6 : Bool × List (List Nat × List Nat) := (true, [([], []), ([], []), ([1], [1]), ([2], [2]), ([0, 3], [0, 3]), ([4], [4]), ([5, 4], [5]), ([6], [6]), ([6], [6]), ([7, 8, 6], [6, 7, 8]), ([9, 6], [6, 9]), ([10, 6], [6, 10]), ([6], [6]), ([12, 6], [6, 12]), ([13, 6], [6, 13]), ([14, 6], [6, 14]), ([15, 6], [6, 15]), ([11, 16, 6, 6], [6, 11, 16]), ([17, 6], [6, 17]), ([6, 18], [6, 18]), ([19, 17], [19]), ([20], [20]), ([20], [20]), ([21, 22, 20], [20, 21, 22]), ([23, 20], [20, 23]), ([24, 20], [20, 24]), ([20], [20]), ([26, 20], [20, 26]), ([27, 20], [20, 27]), ([28, 20], [20, 28]), ([29, 20], [20, 29]), ([25, 30, 20, 20], [20, 25, 30]), ([31, 20], [20, 31]), ([20, 32], [20, 32]), ([33, 31], [33]), ([34], [34]), ([34], [34]), ([35, 36, 34], [34, 35, 36]), ([37, 34, 34], [34, 37]), ([34], [34]), ([34], [34]), ([39, 40, 34], [34, 39, 40]), ([41, 34], [34, 41]), ([42, 34], [34, 42]), ([38, 43, 38, 34], [34, 38, 43]), ([44, 34], [34, 44]), ([34, 45], [34, 45])])
def spec_l19Laid.B6 : List Nat := [0, 0, 2, 6, 15, 31, 63, 127, 127, 511, 1023, 2047, 127, 4223, 12415, 28799, 61567, 131071, 262143, 524287, 1048575, 2097151, 2097151, 8388607, 16777215, 33554431, 2097151, 69206015, 203423743, 471859199, 1008730111, 2147483647, 4294967295, 8589934591, 17179869183, 34359738367, 34359738367, 137438953471, 274877906943, 34359738367, 34359738367, 1683627180031, 3882650435583, 8280696946687, 17592186044415, 35184372088831, 70368744177663]
theorem spec_l19Laid.tab6 : rtab .any (opsOf Try.f81 6) = spec_l19Laid.T6 := by kernel_rfl
theorem spec_l19Laid.bits6 : waitsOk spec_l19Laid.T6.2 spec_l19Laid.B6 = true := by kernel_rfl
def spec_l19Laid.T9 : Bool × List (List Nat × List Nat) := (true, [([], []), ([], []), ([0, 1], [0, 1]), ([2], [2]), ([], []), ([], []), ([4, 5], [4, 5]), ([6], [6]), ([7], [7]), ([3, 8], [3, 8])])
def spec_l19Laid.B9 : List Nat := [0, 0, 3, 7, 0, 0, 48, 112, 240, 511]
theorem spec_l19Laid.tab9 : rtab .any (opsOf Try.f81 9) = spec_l19Laid.T9 := by kernel_rfl
theorem spec_l19Laid.bits9 : waitsOk spec_l19Laid.T9.2 spec_l19Laid.B9 = true := by kernel_rfl
def spec_l19Laid.T11 : Bool × List (List Nat × List Nat) := (true, [([], []), ([], []), ([0, 1], [0, 1]), ([], []), ([], []), ([3, 4], [3, 4]), ([5], [5]), ([6], [6]), ([], []), ([], []), ([8, 9], [8, 9]), ([10], [10]), ([11], [11]), ([], []), ([], []), ([13, 14], [13, 14]), ([15], [15]), ([16], [16]), ([2, 7, 12, 17], [2, 7, 12, 17]), ([18, 18, 0, 1, 2, 3, 4, 5, 6, 7, 8, 9, 10, 11, 12, 13, 14, 15, 16, 17, 18], [18])])
def spec_l19Laid.B11 : List Nat := [0, 0, 3, 0, 0, 24, 56, 120, 0, 0, 768, 1792, 3840, 0, 0, 24576, 57344, 122880, 262143, 524287]
theorem spec_l19Laid.tab11 : rtab .any (opsOf Try.f81 11) = spec_l19Laid.T11 := by kernel_rfl
theorem spec_l19Laid.bits11 : waitsOk spec_l19Laid.T11.2 spec_l19Laid.B11 = true := by kernel_rfl
def spec_l19Laid.T15 : Bool × List (List Nat × List Nat) := (true, [([], []), ([], []), ([0, 1], [0, 1]), ([2], [2]), ([3], [3]), ([], []), ([5], [5]), ([6], [6]), ([7], [7]), ([4, 8], [4, 8]), ([9], [9]), ([10], [10]), ([10], [10]), ([11, 12, 10], [10, 11, 12]), ([13, 10], [10, 13]), ([14, 10], [10, 14]), ([10], [10]), ([16, 10], [10, 16]), ([17, 10], [10, 17]), ([18, 10], [10, 18]), ([15, 19, 10], [10, 15, 19]), ([10, 20], [10, 20])])
def spec_l19Laid.B15 : List Nat := [0, 0, 3, 7, 15, 0, 32, 96, 224, 511, 1023, 2047, 2047, 8191, 16383, 32767, 2047, 67583, 198655, 460799, 1048575, 2097151]
theorem spec_l19Laid.tab15 : rtab .any (opsOf Try.f81 15) = spec_l19Laid.T15 := by kernel_rfl
theorem spec_l19Laid.bits15 : waitsOk spec_l19Laid.T15.2 spec_l19Laid.B15 = true := by kernel_rfl
set_option maxHeartbeats 8000000 in
set_option maxRecDepth 100000 in
theorem spec_l19Laid.calls (k : Nat) (A0 : Option Addr) (l0 : List (S27)) (A1 : Option Addr) (c1 : Nat) (l1 : List (S53)) (A2 : Option Addr) (c2 : Nat) (l2 : List (S109)) (r : Bool) (w : World) (hr0 : Kd.C k27 w A0 l0.length l0) (hr1 : Kd.C k53 w A1 l1.length l1) (hc1 : l1.length ≤ c1) (hr2 : Kd.C k109 w A2 l2.length l2) (hc2 : l2.length ≤ c2) (h : spec_l19Laid.f k l0 l1 l2 = some r) :
 Calls Try.prog 81 #[.pointer A0, .slice A1 l1.length c1, .slice A2 l2.length c2] w fun e w' => e = .returned (.bool r) ∧ Below w.heap.size w w' := by
 have HR0 := mkA hr0
 clear hr0
 have HR1 := mkA hr1
 have HC1 := mkA hc1
 clear hr1 hc1
 have HR2 := mkA hr2
 have HC2 := mkA hc2
 clear hr2 hc2
 have HB := mkA (Below.refl w.heap.size w)
 unfold spec_l19Laid.f at h
 have H := h
 clear h
 revert H
 refine ng_ fun c4 => ng_ fun c5 => ?_
 intro H
 have c4b0 := eq_true c4
 have c4b1 := decide_eq_true c4
 clear c4
 have c5b0 := eq_true c5
 have c5b1 := decide_eq_true c5
 clear c5
 obtain ⟨y336, hy336⟩ := gy_ (List.replicate ((l1.length : Int) : Int).toNat 0 : List Int)
 rw [← hy336] at H
 (try with_reducible replace H := bso_ H)
 have Ny336 := mkA hy336
 clear hy336
 have H' := mkA H
 clear H
 go_enter Try.func81, Try.ntmps81
 go_wp2_with (first | ((with_reducible refine gt_ 14 ?_); refine Kd.R_make (Kd.int .i64) _ 2 rfl (N := 14) rfl 22 _ _ rfl (l1.length : Int) rfl rfl Try.underlying22 (.int .i64 0) 8 info2 rfl (by decide) (by omega) 0 (ok := fun _ => True) (okp := fun _ => True) rfl (fun _ hk => hk) trivial (dt_) (Nat.le_trans (Nat.mul_le_mul_right _ (dt_ : (l1.length : Int).toNat ≤ 35184372088832)) (by omega)) (Below.refl _ _) (Nat.le_refl _) ?_; intro v337 w6 ho7 hb hg_ hnew_; clear hg_ hnew_; (first | rw [← Ny336.out] at ho7 | (simp only [Int.reduceToNat] at ho7; rw [← Ny336.out] at ho7)); have HO338 := mkA (Kd.R_lower ho7 (below_size (bs0_ HB.out))); replace HB := mkA (below_step (bs0_ HB.out) hb); clear hb ho7))
 go_loopg [8] k (fun kq v8 w' => ∃ (x7_1 : List Int) (x8_1 : Int), v8 = .int .i64 x8_1 ∧ Aside0 (spec_l19Laid.l0 kq l1 l2 x7_1 x8_1 l0 = some r) ∧ Aside0 (kq ≤ k) ∧ Aside0 (Kd.R (Kd.int .i64) 2 w' w.heap.size (fun _ => True) v337 x7_1) ∧ Aside0 (Below w.heap.size w w'))
 case atStart => exact ⟨(y336), (0), rf_, H', ⟨Nat.le_refl _⟩, ⟨r_ HO338.out⟩, ⟨bs0_ HB.out⟩⟩
 case round =>
  clear H'
  try clear c4 c4b0 c4b1 c5 c5b0 c5b1
  obtain ⟨x7_1, x8_1, rfl, HA, HK1, HO_7, HB⟩ := hrel
  cases gk with
  | zero => exact absurd HA.out (by simp [spec_l19Laid.l0])
  | succ k1 =>
   have H := HA.out
   clear HA
   simp only [spec_l19Laid.l0] at H
   by_cases c8 : x8_1 < (l2.length : Int)
   rotate_left
   · rw [if_neg c8] at H
     have c8b0 := decide_eq_false c8
     (try simp only [hl7_3] at c8b0)
     clear c8
     obtain rfl := Option.some.inj H
     go_wp2
     go_ret
     exact ⟨re_, bs0_ HB.out⟩
   rw [if_pos c8] at H
   have c8b0 := decide_eq_true c8
   clear c8
   revert H
   refine ng_ fun c9 => ?_
   intro H
   have c9b0 := decide_eq_true c9
   clear c9
   have HC10 := mkA H
   clear H
   obtain ⟨ad339, e339, hx339_0, hx339_1, hx339_2, hx339_3⟩ := at_T109 HR2.out x8_1 dt_ dt_
   cases e339
   obtain ⟨hx339_0, hx339_1, hx339_2, hx339_3⟩ := b4_ HB.out hx339_0 hx339_1 hx339_2 hx339_3
   have p339 : (0 ≤ (x8_1 : Int)) = True := eq_true dt_
   have q339 : (x8_1 < (l2.length : Int)) = True := eq_true dt_
   go_upto_region 6 with (fail)
   go_cut [72] (fun v72 wc => ∃ (kq : Nat) (x72_9 : Bool), v72 = .bool x72_9 ∧ Aside0 (spec_l19Laid.j1 kq l1 l2 x7_1 x8_1 ((rd_T109 l2 x8_1).f0) x72_9 l0 = some r) ∧ Aside0 (kq ≤ k1) ∧ Aside0 (Kd.R (Kd.int .i64) 2 wc w.heap.size (fun _ => True) v337 x7_1) ∧ Aside0 (Below w.heap.size w wc))
   case first =>
    have H := HC10.out
    clear HC10
    revert H
    refine ob_ fun t340 A11 => ?_
    intro H
    by_cases c12 : t340 = true
    rotate_left
    · replace c12 := Bool.eq_false_iff.mpr c12
      subst c12
      rw [if_neg Bool.false_ne_true] at H
      have H' := mkA H
      clear H
      try go_wp2
      replace HO_7 := mkA (Kd.R_drew HO_7.out)
      replace HB := mkA (below_drew1 HB.out)
      refine st_ 47 (fun w' => True) [] spec_l19Laid.tab6 spec_l19Laid.bits6 trivial fun hHeld HT_ HW_ => ?_
      generalize wr.drew = w27 at HO_7 HB hHeld ⊢
      refine a1_ 0 26 (h := a1_ 1 27 (h := a1_ 2 28 (h := a1_ 3 29 (h := ?_))))
      refine on_ 4 30 fun K hK => ?_
      refine go_ Try.func60 #[.int .i64 ((rd_T109 l2 x8_1).f0), .int .i64 0, .int .i64 (wrap64 ((l1.length : Int) - 1))] ?_
      with_reducible refine (spec_l00In.calls ((rd_T109 l2 x8_1).f0) 0 (wrap64 ((l1.length : Int) - 1)) false _ A11.out).mono ?_
      rintro e w' ⟨rfl, ⟨nd, rfl⟩⟩
      refine ⟨_, rfl, ?_⟩
      refine hK.out _ _ trivial (fun hHeld => ?_)
      clear hK K
      refine nm_ 30 ?_
      refine a1_ 5 31 (h := a1_ 6 32 (h := a0_ 7 33 (h := a0_ 8 34 (h := a0_ 9 35 (h := a0_ 10 36 (h := a0_ 11 37 (h := a0_ 12 38 (h := a0_ 13 39 (h := a0_ 14 40 (h := a0_ 15 41 (h := a0_ 16 42 (h := a0_ 17 43 (h := a0_ 18 44 (h := a1_ 19 45 (h := a1_ 20 46 (h := a0_ 21 47 (h := a0_ 22 48 (h := a0_ 23 49 (h := a0_ 24 50 (h := a0_ 25 51 (h := a0_ 26 52 (h := a0_ 27 53 (h := a0_ 28 54 (h := a0_ 29 55 (h := a0_ 30 56 (h := a0_ 31 57 (h := a0_ 32 58 (h := a1_ 33 59 (h := a1_ 34 60 (h := a0_ 35 61 (h := a0_ 36 62 (h := a0_ 37 63 (h := a0_ 38 64 (h := a0_ 39 65 (h := a0_ 40 66 (h := a0_ 41 67 (h := a0_ 42 68 (h := a0_ 43 69 (h := a0_ 44 70 (h := a0_ 45 71 (h := a1_ 46 72 (h := ?_))))))))))))))))))))))))))))))))))))))))))
      refine dn_ ?_
      try go_wp2
      go_meet
      case rel => exact ⟨_, (true), rf_, H', ⟨om_ HK1.out⟩, ⟨r_ HO_7.out⟩, ⟨bs0_ HB.out⟩⟩
    subst c12
    rw [if_pos rfl] at H
    revert H
    refine ng_ fun c13 => ?_
    intro H
    have c13b0 := decide_eq_true c13
    have c13b1 : decide (0 < l0.length) = true := decide_eq_true (by omega)
    clear c13
    (first | rw [c13b0] | (simp only [i64_w, i32_w]; rw [c13b0]) | skip)
    revert H
    refine ob_ fun t343 A14 => ?_
    intro H
    by_cases c15 : t343 = true
    rotate_left
    · replace c15 := Bool.eq_false_iff.mpr c15
      subst c15
      rw [if_neg Bool.false_ne_true] at H
      have H' := mkA H
      clear H
      try go_wp2
      replace HO_7 := mkA (Kd.R_drew HO_7.out)
      replace HB := mkA (below_drew1 HB.out)
      obtain ⟨ad341, e341, hw341_0, hw341_1, hw341_2, hw341_3⟩ := at_T109 HR2.out x8_1 dt_ dt_
      obtain rfl : ad339 = ad341 := (by injection e341)
      obtain ⟨hx341_0, hx341_1, hx341_2, hx341_3⟩ := b4_ HB.out hw341_0 hw341_1 hw341_2 hw341_3
      have p341 : (0 ≤ (x8_1 : Int)) = True := eq_true dt_
      have q341 : (x8_1 < (l2.length : Int)) = True := eq_true dt_
      obtain ⟨ad342, A342_2, c342_2, e342, hw342_0, hw342_1, hw342_2, hl342_2, hi342_2⟩ := at0_T27 HR0.out dt_
      cases e342
      have HR342_2 := mkA hi342_2
      have HC342_2 := mkA hl342_2
      clear hi342_2 hl342_2
      obtain ⟨hx342_0, hx342_1, hx342_2⟩ := b3_ HB.out hw342_0 hw342_1 hw342_2
      have p342 : (0 ≤ (0 : Int)) = True := eq_true (by omega)
      have q342 : (0 < (l0.length : Int)) = True := eq_true dt_
      have qi342 := qn_ q342
      refine st_ 47 (fun w' => C_ hw341_0 w' ∧ C_ hw341_1 w' ∧ C_ hw341_2 w' ∧ C_ hw341_3 w' ∧ C_ hw342_0 w' ∧ C_ hw342_1 w' ∧ C_ hw342_2 w') [] spec_l19Laid.tab6 spec_l19Laid.bits6 sp_ fun hHeld HT_ HW_ => ?_
      generalize wr.drew = w26 at HO_7 HB HR342_2 hx341_0 hx341_1 hx341_2 hx341_3 hx342_0 hx342_1 hx342_2 hHeld ⊢
      refine a1_ 0 26 (h := a1_ 1 27 (h := a1_ 2 28 (h := a1_ 3 29 (h := ?_))))
      refine on_ 4 30 fun K hK => ?_
      refine go_ Try.func60 #[.int .i64 ((rd_T109 l2 x8_1).f0), .int .i64 0, .int .i64 (wrap64 ((l1.length : Int) - 1))] ?_
      with_reducible refine (spec_l00In.calls ((rd_T109 l2 x8_1).f0) 0 (wrap64 ((l1.length : Int) - 1)) true _ A11.out).mono ?_
      rintro e w' ⟨rfl, ⟨nd, rfl⟩⟩
      refine ⟨_, rfl, ?_⟩
      refine hK.out _ _ sp_ fun hHeld => ?_
      clear hK K
      refine nm_ 30 ?_
      refine a1_ 5 31 (h := a1_ 6 32 (h := a1_ 7 33 (h := a1_ 8 34 (h := a1_ 9 35 (h := a1_ 10 36 (h := a1_ 12 38 (h := a1_ 13 39 (h := a1_ 14 40 (h := tk_ 11 37 (h := tk_ 15 41 (h := a1_ 16 42 (h := ?_))))))))))))
      refine on_ 17 43 fun K hK => ?_
      refine go_ Try.func60 #[.int .i64 ((rd_T109 l2 x8_1).f1), .int .i64 0, .int .i64 (wrap64 (((rd_T27 l0 0).f0) - 1))] ?_
      with_reducible refine (spec_l00In.calls ((rd_T109 l2 x8_1).f1) 0 (wrap64 (((rd_T27 l0 0).f0) - 1)) false _ A14.out).mono ?_
      rintro e w' ⟨rfl, ⟨nd, rfl⟩⟩
      refine ⟨_, rfl, ?_⟩
      refine hK.out _ _ sp_ fun hHeld => ?_
      clear hK K
      refine nm_ 43 ?_
      refine a1_ 18 44 (h := a1_ 19 45 (h := a1_ 20 46 (h := a0_ 21 47 (h := a0_ 22 48 (h := a0_ 23 49 (h := a0_ 24 50 (h := a0_ 25 51 (h := a0_ 26 52 (h := a0_ 27 53 (h := a0_ 28 54 (h := a0_ 29 55 (h := a0_ 30 56 (h := a0_ 31 57 (h := a0_ 32 58 (h := a1_ 33 59 (h := a1_ 34 60 (h := a0_ 35 61 (h := a0_ 36 62 (h := a0_ 37 63 (h := a0_ 38 64 (h := a0_ 39 65 (h := a0_ 40 66 (h := a0_ 41 67 (h := a0_ 42 68 (h := a0_ 43 69 (h := a0_ 44 70 (h := a0_ 45 71 (h := a1_ 46 72 (h := ?_)))))))))))))))))))))))))))))
      refine dn_ ?_
      try go_wp2
      go_meet
      case rel => exact ⟨_, (true), rf_, H', ⟨om_ HK1.out⟩, ⟨r_ HO_7.out⟩, ⟨bs0_ HB.out⟩⟩
    subst c15
    rw [if_pos rfl] at H
    revert H
    refine ob_ fun t346 A16 => ?_
    intro H
    by_cases c17 : t346 = true
    rotate_left
    · replace c17 := Bool.eq_false_iff.mpr c17
      subst c17
      rw [if_neg Bool.false_ne_true] at H
      have H' := mkA H
      clear H
      try go_wp2
      replace HO_7 := mkA (Kd.R_drew HO_7.out)
      replace HB := mkA (below_drew1 HB.out)
      obtain ⟨ad341, e341, hw341_0, hw341_1, hw341_2, hw341_3⟩ := at_T109 HR2.out x8_1 dt_ dt_
      obtain rfl : ad339 = ad341 := (by injection e341)
      obtain ⟨hx341_0, hx341_1, hx341_2, hx341_3⟩ := b4_ HB.out hw341_0 hw341_1 hw341_2 hw341_3
      have p341 : (0 ≤ (x8_1 : Int)) = True := eq_true dt_
      have q341 : (x8_1 < (l2.length : Int)) = True := eq_true dt_
      obtain ⟨ad342, A342_2, c342_2, e342, hw342_0, hw342_1, hw342_2, hl342_2, hi342_2⟩ := at0_T27 HR0.out dt_
      cases e342
      have HR342_2 := mkA hi342_2
      have HC342_2 := mkA hl342_2
      clear hi342_2 hl342_2
      obtain ⟨hx342_0, hx342_1, hx342_2⟩ := b3_ HB.out hw342_0 hw342_1 hw342_2
      have p342 : (0 ≤ (0 : Int)) = True := eq_true (by omega)
      have q342 : (0 < (l0.length : Int)) = True := eq_true dt_
      have qi342 := qn_ q342
      obtain ⟨ad344, e344, hw344_0, hw344_1, hw344_2, hw344_3⟩ := at_T109 HR2.out x8_1 dt_ dt_
      obtain rfl : ad339 = ad344 := (by injection e344)
      obtain ⟨hx344_0, hx344_1, hx344_2, hx344_3⟩ := b4_ HB.out hw344_0 hw344_1 hw344_2 hw344_3
      have p344 : (0 ≤ (x8_1 : Int)) = True := eq_true dt_
      have q344 : (x8_1 < (l2.length : Int)) = True := eq_true dt_
      obtain ⟨ad345, A345_2, c345_2, e345, hw345_0, hw345_1, hw345_2, hl345_2, hi345_2⟩ := at0_T27 HR0.out dt_
      obtain rfl : ad342 = ad345 := (by injection e345)
      have HR345_2 := mkA hi345_2
      have HC345_2 := mkA hl345_2
      clear hi345_2 hl345_2
      obtain ⟨hx345_0, hx345_1, hx345_2⟩ := b3_ HB.out hw345_0 hw345_1 hw345_2
      have p345 : (0 ≤ (0 : Int)) = True := eq_true (by omega)
      have q345 : (0 < (l0.length : Int)) = True := eq_true dt_
      have qi345 := qn_ q345
      have ea_ := Option.some.inj (hx342_2.symm.trans hx345_2)
      injection ea_ with ea_ en_ ec_
      subst ea_
      subst ec_
      clear en_
      refine st_ 47 (fun w' => C_ hw341_0 w' ∧ C_ hw341_1 w' ∧ C_ hw341_2 w' ∧ C_ hw341_3 w' ∧ C_ hw342_0 w' ∧ C_ hw342_1 w' ∧ C_ hw342_2 w' ∧ C_ hw344_0 w' ∧ C_ hw344_1 w' ∧ C_ hw344_2 w' ∧ C_ hw344_3 w' ∧ C_ hw345_0 w' ∧ C_ hw345_1 w' ∧ C_ hw345_2 w') [] spec_l19Laid.tab6 spec_l19Laid.bits6 sp_ fun hHeld HT_ HW_ => ?_
      generalize wr.drew = w25 at HO_7 HB HR342_2 HR345_2 hx341_0 hx341_1 hx341_2 hx341_3 hx342_0 hx342_1 hx342_2 hx344_0 hx344_1 hx344_2 hx344_3 hx345_0 hx345_1 hx345_2 hHeld ⊢
      refine a1_ 0 26 (h := a1_ 1 27 (h := a1_ 2 28 (h := a1_ 3 29 (h := ?_))))
      refine on_ 4 30 fun K hK => ?_
      refine go_ Try.func60 #[.int .i64 ((rd_T109 l2 x8_1).f0), .int .i64 0, .int .i64 (wrap64 ((l1.length : Int) - 1))] ?_
      with_reducible refine (spec_l00In.calls ((rd_T109 l2 x8_1).f0) 0 (wrap64 ((l1.length : Int) - 1)) true _ A11.out).mono ?_
      rintro e w' ⟨rfl, ⟨nd, rfl⟩⟩
      refine ⟨_, rfl, ?_⟩
      refine hK.out _ _ sp_ fun hHeld => ?_
      clear hK K
      refine nm_ 30 ?_
      refine a1_ 5 31 (h := a1_ 6 32 (h := a1_ 7 33 (h := a1_ 8 34 (h := a1_ 9 35 (h := a1_ 10 36 (h := a1_ 12 38 (h := a1_ 13 39 (h := a1_ 14 40 (h := tk_ 11 37 (h := tk_ 15 41 (h := a1_ 16 42 (h := ?_))))))))))))
      refine on_ 17 43 fun K hK => ?_
      refine go_ Try.func60 #[.int .i64 ((rd_T109 l2 x8_1).f1), .int .i64 0, .int .i64 (wrap64 (((rd_T27 l0 0).f0) - 1))] ?_
      with_reducible refine (spec_l00In.calls ((rd_T109 l2 x8_1).f1) 0 (wrap64 (((rd_T27 l0 0).f0) - 1)) true _ A14.out).mono ?_
      rintro e w' ⟨rfl, ⟨nd, rfl⟩⟩
      refine ⟨_, rfl, ?_⟩
      refine hK.out _ _ sp_ fun hHeld => ?_
      clear hK K
      refine nm_ 43 ?_
      refine a1_ 18 44 (h := a1_ 19 45 (h := a1_ 20 46 (h := a1_ 21 47 (h := a1_ 22 48 (h := a1_ 23 49 (h := a1_ 24 50 (h := a1_ 26 52 (h := a1_ 27 53 (h := a1_ 28 54 (h := tk_ 25 51 (h := tk_ 29 55 (h := a1_ 30 56 (h := ?_)))))))))))))
      refine on_ 31 57 fun K hK => ?_
      refine go_ Try.func60 #[.int .i64 ((rd_T109 l2 x8_1).f2), .int .i64 0, .int .i64 (wrap64 (((rd_T27 l0 0).f1) - 1))] ?_
      with_reducible refine (spec_l00In.calls ((rd_T109 l2 x8_1).f2) 0 (wrap64 (((rd_T27 l0 0).f1) - 1)) false _ A16.out).mono ?_
      rintro e w' ⟨rfl, ⟨nd, rfl⟩⟩
      refine ⟨_, rfl, ?_⟩
      refine hK.out _ _ sp_ fun hHeld => ?_
      clear hK K
      refine nm_ 57 ?_
      refine a1_ 32 58 (h := a1_ 33 59 (h := a1_ 34 60 (h := a0_ 35 61 (h := a0_ 36 62 (h := a0_ 37 63 (h := a0_ 38 64 (h := a0_ 39 65 (h := a0_ 40 66 (h := a0_ 41 67 (h := a0_ 42 68 (h := a0_ 43 69 (h := a0_ 44 70 (h := a0_ 45 71 (h := a1_ 46 72 (h := ?_)))))))))))))))
      refine dn_ ?_
      try go_wp2
      go_meet
      case rel => exact ⟨_, (true), rf_, H', ⟨om_ HK1.out⟩, ⟨r_ HO_7.out⟩, ⟨bs0_ HB.out⟩⟩
    subst c17
    rw [if_pos rfl] at H
    revert H
    refine ng_ fun c18 => ng_ fun c19 => ob_ fun t348 A20 => ob_ fun t352 A21 => ?_
    intro H
    have c18b0 := decide_eq_true c18
    clear c18
    have c19b0 := decide_eq_true c19
    clear c19
    have H' := mkA H
    clear H
    try go_wp2
    replace HO_7 := mkA (Kd.R_drew HO_7.out)
    replace HB := mkA (below_drew1 HB.out)
    obtain ⟨ad341, e341, hw341_0, hw341_1, hw341_2, hw341_3⟩ := at_T109 HR2.out x8_1 dt_ dt_
    obtain rfl : ad339 = ad341 := (by injection e341)
    obtain ⟨hx341_0, hx341_1, hx341_2, hx341_3⟩ := b4_ HB.out hw341_0 hw341_1 hw341_2 hw341_3
    have p341 : (0 ≤ (x8_1 : Int)) = True := eq_true dt_
    have q341 : (x8_1 < (l2.length : Int)) = True := eq_true dt_
    obtain ⟨ad342, A342_2, c342_2, e342, hw342_0, hw342_1, hw342_2, hl342_2, hi342_2⟩ := at0_T27 HR0.out dt_
    cases e342
    have HR342_2 := mkA hi342_2
    have HC342_2 := mkA hl342_2
    clear hi342_2 hl342_2
    obtain ⟨hx342_0, hx342_1, hx342_2⟩ := b3_ HB.out hw342_0 hw342_1 hw342_2
    have p342 : (0 ≤ (0 : Int)) = True := eq_true (by omega)
    have q342 : (0 < (l0.length : Int)) = True := eq_true dt_
    have qi342 := qn_ q342
    obtain ⟨ad344, e344, hw344_0, hw344_1, hw344_2, hw344_3⟩ := at_T109 HR2.out x8_1 dt_ dt_
    obtain rfl : ad339 = ad344 := (by injection e344)
    obtain ⟨hx344_0, hx344_1, hx344_2, hx344_3⟩ := b4_ HB.out hw344_0 hw344_1 hw344_2 hw344_3
    have p344 : (0 ≤ (x8_1 : Int)) = True := eq_true dt_
    have q344 : (x8_1 < (l2.length : Int)) = True := eq_true dt_
    obtain ⟨ad345, A345_2, c345_2, e345, hw345_0, hw345_1, hw345_2, hl345_2, hi345_2⟩ := at0_T27 HR0.out dt_
    obtain rfl : ad342 = ad345 := (by injection e345)
    have HR345_2 := mkA hi345_2
    have HC345_2 := mkA hl345_2
    clear hi345_2 hl345_2
    obtain ⟨hx345_0, hx345_1, hx345_2⟩ := b3_ HB.out hw345_0 hw345_1 hw345_2
    have p345 : (0 ≤ (0 : Int)) = True := eq_true (by omega)
    have q345 : (0 < (l0.length : Int)) = True := eq_true dt_
    have qi345 := qn_ q345
    have ea_ := Option.some.inj (hx342_2.symm.trans hx345_2)
    injection ea_ with ea_ en_ ec_
    subst ea_
    subst ec_
    clear en_
    obtain ⟨ad347, A347_1, c347_1, e347, hw347_0, hw347_1, hw347_2, hw347_3, hl347_1, hi347_1⟩ := at_T53 HR1.out ((rd_T109 l2 x8_1).f0) dt_ dt_
    cases e347
    have HR347_1 := mkA hi347_1
    have HC347_1 := mkA hl347_1
    clear hi347_1 hl347_1
    obtain ⟨hx347_0, hx347_1, hx347_2, hx347_3⟩ := b4_ HB.out hw347_0 hw347_1 hw347_2 hw347_3
    have p347 : (0 ≤ (((rd_T109 l2 x8_1).f0) : Int)) = True := eq_true dt_
    have q347 : (((rd_T109 l2 x8_1).f0) < (l1.length : Int)) = True := eq_true dt_
    obtain ⟨ad351, e351, hw351_0, hw351_1, hw351_2, hw351_3⟩ := at_T109 HR2.out x8_1 dt_ dt_
    obtain rfl : ad339 = ad351 := (by injection e351)
    obtain ⟨hx351_0, hx351_1, hx351_2, hx351_3⟩ := b4_ HB.out hw351_0 hw351_1 hw351_2 hw351_3
    have p351 : (0 ≤ (x8_1 : Int)) = True := eq_true dt_
    have q351 : (x8_1 < (l2.length : Int)) = True := eq_true dt_
    refine st_ 47 (fun w' => C_ hw341_0 w' ∧ C_ hw341_1 w' ∧ C_ hw341_2 w' ∧ C_ hw341_3 w' ∧ C_ hw342_0 w' ∧ C_ hw342_1 w' ∧ C_ hw342_2 w' ∧ C_ hw344_0 w' ∧ C_ hw344_1 w' ∧ C_ hw344_2 w' ∧ C_ hw344_3 w' ∧ C_ hw345_0 w' ∧ C_ hw345_1 w' ∧ C_ hw345_2 w' ∧ C_ hw347_0 w' ∧ C_ hw347_1 w' ∧ C_ hw347_2 w' ∧ C_ hw347_3 w' ∧ C_ hw351_0 w' ∧ C_ hw351_1 w' ∧ C_ hw351_2 w' ∧ C_ hw351_3 w') [] spec_l19Laid.tab6 spec_l19Laid.bits6 sp_ fun hHeld HT_ HW_ => ?_
    generalize wr.drew = w22 at HO_7 HB HR342_2 HR345_2 HR347_1 hx341_0 hx341_1 hx341_2 hx341_3 hx342_0 hx342_1 hx342_2 hx344_0 hx344_1 hx344_2 hx344_3 hx345_0 hx345_1 hx345_2 hx347_0 hx347_1 hx347_2 hx347_3 hx351_0 hx351_1 hx351_2 hx351_3 hHeld ⊢
    refine a1_ 0 26 (h := a1_ 1 27 (h := a1_ 2 28 (h := a1_ 3 29 (h := ?_))))
    refine on_ 4 30 fun K hK => ?_
    refine go_ Try.func60 #[.int .i64 ((rd_T109 l2 x8_1).f0), .int .i64 0, .int .i64 (wrap64 ((l1.length : Int) - 1))] ?_
    with_reducible refine (spec_l00In.calls ((rd_T109 l2 x8_1).f0) 0 (wrap64 ((l1.length : Int) - 1)) true _ A11.out).mono ?_
    rintro e w' ⟨rfl, ⟨nd, rfl⟩⟩
    refine ⟨_, rfl, ?_⟩
    refine hK.out _ _ sp_ fun hHeld => ?_
    clear hK K
    refine nm_ 30 ?_
    refine a1_ 5 31 (h := a1_ 6 32 (h := a1_ 7 33 (h := a1_ 8 34 (h := a1_ 9 35 (h := a1_ 10 36 (h := a1_ 12 38 (h := a1_ 13 39 (h := a1_ 14 40 (h := tk_ 11 37 (h := tk_ 15 41 (h := a1_ 16 42 (h := ?_))))))))))))
    refine on_ 17 43 fun K hK => ?_
    refine go_ Try.func60 #[.int .i64 ((rd_T109 l2 x8_1).f1), .int .i64 0, .int .i64 (wrap64 (((rd_T27 l0 0).f0) - 1))] ?_
    with_reducible refine (spec_l00In.calls ((rd_T109 l2 x8_1).f1) 0 (wrap64 (((rd_T27 l0 0).f0) - 1)) true _ A14.out).mono ?_
    rintro e w' ⟨rfl, ⟨nd, rfl⟩⟩
    refine ⟨_, rfl, ?_⟩
    refine hK.out _ _ sp_ fun hHeld => ?_
    clear hK K
    refine nm_ 43 ?_
    refine a1_ 18 44 (h := a1_ 19 45 (h := a1_ 20 46 (h := a1_ 21 47 (h := a1_ 22 48 (h := a1_ 23 49 (h := a1_ 24 50 (h := a1_ 26 52 (h := a1_ 27 53 (h := a1_ 28 54 (h := tk_ 25 51 (h := tk_ 29 55 (h := a1_ 30 56 (h := ?_)))))))))))))
    refine on_ 31 57 fun K hK => ?_
    refine go_ Try.func60 #[.int .i64 ((rd_T109 l2 x8_1).f2), .int .i64 0, .int .i64 (wrap64 (((rd_T27 l0 0).f1) - 1))] ?_
    with_reducible refine (spec_l00In.calls ((rd_T109 l2 x8_1).f2) 0 (wrap64 (((rd_T27 l0 0).f1) - 1)) true _ A16.out).mono ?_
    rintro e w' ⟨rfl, ⟨nd, rfl⟩⟩
    refine ⟨_, rfl, ?_⟩
    refine hK.out _ _ sp_ fun hHeld => ?_
    clear hK K
    refine nm_ 57 ?_
    refine a1_ 32 58 (h := a1_ 33 59 (h := a1_ 34 60 (h := a1_ 35 61 (h := a1_ 36 62 (h := a1_ 37 63 (h := a1_ 39 65 (h := a1_ 40 66 (h := a1_ 41 67 (h := a1_ 42 68 (h := tk_ 43 69 (h := ?_)))))))))))
    refine on_ 38 64 fun K hK => ?_
    refine go_ Try.func73 #[.pointer (some (ad347.add (((rd_T109 l2 x8_1).f0).toNat * 4)))] ?_
    with_reducible refine (spec_l19Turns.calls k1 _ [rd_T53 l1 ((rd_T109 l2 x8_1).f0)] t348 _ ?side1 A20.out).mono ?_
    (case side1 => refine Go.Proofs.YtakagkflgkoiiaaX.rp_elem (xs := l1) z53 ((rd_T109 l2 x8_1).f0) (of_eq_true p347) (of_eq_true q347) ?_; repeat (first | exact (Kd.C_below HR1.out (bs0_ HB.out)) | (with_reducible refine Kd.C_alloc ?_ _) | (with_reducible refine Kd.C_drewN ?_ _) | (with_reducible refine Kd.C_drew ?_)))
    rintro e w23 ⟨v349, rfl, ho0, hb⟩
    refine ⟨_, rfl, ?_⟩
    have HO350 := mkA (Kd.R_lower (Kd.R_new' ho0 (Kd.R_lt (r_ HO_7.out))) (below_size (bs0_ HB.out)))
    replace HO_7 := mkA (Kd.R_elder' (r_ HO_7.out) (Kd.R_base ho0) hb)
    replace HB := mkA (below_step (bs0_ HB.out) hb)
    (try clear hb)
    (try clear hb2)
    (try clear hk)
    (try clear hi)
    (try clear ho0)
    obtain ⟨Ao24, co24, eo24⟩ := Kd.R_slice HO350.out
    (first | subst eo24 | (injection eo24 with f1_ f2_ f3_; have f4_ := f1_.symm; have f5_ := f3_.symm; clear f1_ f2_ f3_; subst f4_; subst f5_))
    refine hK.out _ _ sp_ fun hHeld => ?_
    clear hK K
    refine nm_ 64 ?_
    refine on_ 44 70 fun K hK => ?_
    refine go_ Try.func103 #[.slice Ao24 t348.length co24, .int .i64 ((rd_T109 l2 x8_1).f3)] ?_
    with_reducible refine (spec_l00Has.calls k1 _ _ t348 ((rd_T109 l2 x8_1).f3) t352 _ ?side1 ?side2 A21.out).mono ?_
    (case side1 => repeat (first | exact (Kd.R_reads' HO350.out).2.2 | (with_reducible refine Kd.C_alloc ?_ _) | (with_reducible refine Kd.C_drewN ?_ _) | (with_reducible refine Kd.C_drew ?_)))
    (case side2 => exact (Kd.R_reads' HO350.out).2.1)
    rintro e w' ⟨rfl, ⟨nd, rfl⟩⟩
    refine ⟨_, rfl, ?_⟩
    refine hK.out _ _ sp_ fun hHeld => ?_
    clear hK K
    refine nm_ 70 ?_
    refine a1_ 45 71 (h := a1_ 46 72 (h := ?_))
    refine dn_ ?_
    try go_wp2
    go_meet
    case rel => exact ⟨_, (!t352), rf_, H', ⟨om_ HK1.out⟩, ⟨by refine r_ ?_; exact Kd.R_mono HO_7.out (fun _ hk => trivial)⟩, ⟨bs0_ HB.out⟩⟩
   case rest =>
    clear HC10
    try clear c12 c13
    try clear hx341_0 hx341_1 hx341_2 hx341_3 hx342_0 hx342_1 hx342_2
    try clear p342
    try clear q342
    obtain ⟨kq, x72_9, rfl, HA, HJ9, HO_7, HB⟩ := hcut
    cases kq with
    | zero => exact absurd HA.out (by simp [spec_l19Laid.j1])
    | succ kj9 =>
     have H := HA.out
     clear HA
     simp only [spec_l19Laid.j1] at H
     by_cases c28 : x72_9 = true
     · subst c28
       rw [if_pos rfl] at H
       obtain rfl := Option.some.inj H
       go_wp2
       go_ret
       exact ⟨re_, bs0_ HB.out⟩
     · replace c28 := Bool.eq_false_iff.mpr c28
       subst c28
       rw [if_neg Bool.false_ne_true] at H
       revert H
       refine ng_ fun c29 => ng_ fun c30 => ?_
       intro H
       have c29b0 := decide_eq_true c29
       clear c29
       have c30b0 := decide_eq_true c30
       clear c30
       obtain ⟨y354, hy354⟩ := gy_ (x7_1.set (((rd_T109 l2 x8_1).f0) : Int).toNat (wrap64 ((rd x7_1 ((rd_T109 l2 x8_1).f0)) + 1)) : List Int)
       rw [← hy354] at H
       (try with_reducible replace H := bso_ H)
       have Ny354 := mkA hy354
       clear hy354
       revert H
       refine ng_ fun c32 => ?_
       intro H
       have c32b0 := decide_eq_true c32
       clear c32
       by_cases c33 : (rd y354 ((rd_T109 l2 x8_1).f0)) > ((rd_T53 l1 ((rd_T109 l2 x8_1).f0)).f2)
       · rw [if_pos c33] at H
         have c33b0 := decide_eq_true c33
         clear c33
         obtain rfl := Option.some.inj H
         obtain ⟨Ao34, co34, eo34⟩ := Kd.R_slice HO_7.out
         subst eo34
         obtain ⟨ad353, e353, hx353_0⟩ := Kd.at_int (Kd.R_reads' HO_7.out).2.2 ((rd_T109 l2 x8_1).f0) dt_ dt_
         cases e353
         have p353 : (0 ≤ (((rd_T109 l2 x8_1).f0) : Int)) = True := eq_true dt_
         have q353 : (((rd_T109 l2 x8_1).f0) < (x7_1.length : Int)) = True := eq_true dt_
         have p31 : 0 ≤ (((rd_T109 l2 x8_1).f0) : Int) := dt_
         have q31 : (((rd_T109 l2 x8_1).f0) : Int) < ((x7_1.length : Int) : Int) := dt_
         obtain ⟨go31, co31, eo31, gb31, gl31, cl31, HG31⟩ := Kd.R_form HO_7.out (by omega)
         (first | cases eo31 | (injection eo31 with ea_ en_ ec_; (first | subst ea_ | (injection ea_ with ea_; subst ea_)); subst ec_; clear en_))
         have GB31 := mkA gb31
         have GG31 := mkA HG31
         clear gb31 gl31 HG31
         (first | simp only [add_plain] at hx353_0 | skip)
         obtain ⟨hx31_0, hf31_0⟩ := Kd.R_celln 0 HO_7.out (((rd_T109 l2 x8_1).f0) : Int) p31 q31
         replace p31 := eq_true p31
         replace q31 := eq_true q31
         have HP35 := Kd.R_putg HO_7.out (((rd_T109 l2 x8_1).f0) : Int) (wrap64 ((rd x7_1 ((rd_T109 l2 x8_1).f0)) + 1))
         try go_wp2_with (first | ((with_reducible refine gate_store (t := 2) (p := 78) rfl ?_); refine store_event (t := 2) (p := 78) (v := ?vo_w36) (w1 := (wc.setCell ⟨go31, (((rd_T109 l2 x8_1).f0) : Int).toNat, none⟩ (.int .i64 (wrap64 ((rd x7_1 ((rd_T109 l2 x8_1).f0)) + 1))))) ?hg ?ho ?hn ?hr ?_; (case ho => rfl); (case hg => rfl); (case hn => rfl); (case hr => first | (go_simp; done) | (go_simp; rfl)); intro w36 hw; have hg : wc.grownBy w36 (some go31) := (by rw [hw]; exact HP35.2); have hp_ : Kd.R (Kd.int .i64) 2 w36 w.heap.size (fun _ => True) (.slice (some ⟨go31, 0, none⟩) x7_1.length co34) y354 := (by rw [hw, Ny354.out]; exact HP35.1); clear HP35; replace HO_7 := mkA (hp_); replace HB := mkA ((by rw [hw]; exact below_set (HB.out) GB31.out : Below w.heap.size w w36)); clear hg hw hp_))
         replace HO_7 := mkA (Kd.R_drew HO_7.out)
         replace HB := mkA (below_drew1 HB.out)
         have p355 : 0 ≤ (((rd_T109 l2 x8_1).f0) : Int) := dt_
         have q355 : ((rd_T109 l2 x8_1).f0) < (y354.length : Int) := (by have h_ : (((rd_T109 l2 x8_1).f0) : Int) < ((x7_1.length : Int) : Int) := dt_; first | (have e_ := (Kd.R_reads' HO_7.out).1; omega) | simpa only [Ny354.out, List.length_set] using h_)
         have ql355 : ((((rd_T109 l2 x8_1).f0) : Int) < ((x7_1.length : Int) : Int)) = True := eq_true (dt_)
         obtain ⟨ad355, e355, hx355_0⟩ := Kd.at_int (Kd.R_reads' HO_7.out).2.2 ((rd_T109 l2 x8_1).f0) p355 q355
         obtain rfl : (⟨go31, 0, none⟩ : Addr) = ad355 := (by injection e355)
         (first | simp only [add_plain] at hx355_0 | simp only [add_at] at hx355_0 | simp only [Addr.add, Nat.zero_add] at hx355_0 | skip)
         replace p355 := eq_true p355
         replace q355 := eq_true q355
         obtain ⟨ad356, A356_1, c356_1, e356, hw356_0, hw356_1, hw356_2, hw356_3, hl356_1, hi356_1⟩ := at_T53 HR1.out ((rd_T109 l2 x8_1).f0) dt_ dt_
         cases e356
         have HR356_1 := mkA hi356_1
         have HC356_1 := mkA hl356_1
         clear hi356_1 hl356_1
         obtain ⟨hx356_0, hx356_1, hx356_2, hx356_3⟩ := b4_ HB.out hw356_0 hw356_1 hw356_2 hw356_3
         have p356 : (0 ≤ (((rd_T109 l2 x8_1).f0) : Int)) = True := eq_true dt_
         have q356 : (((rd_T109 l2 x8_1).f0) < (l1.length : Int)) = True := eq_true dt_
         refine st_ 10 (fun w' => C_ hx355_0 w' ∧ C_ hw356_0 w' ∧ C_ hw356_1 w' ∧ C_ hw356_2 w' ∧ C_ hw356_3 w') [] spec_l19Laid.tab9 spec_l19Laid.bits9 sp_ fun hHeld HT_ HW_ => ?_
         generalize w36.drew = w37 at HO_7 HB HR356_1 hx355_0 hx356_0 hx356_1 hx356_2 hx356_3 hHeld ⊢
         refine a1_ 0 79 (h := a1_ 1 80 (h := a1_ 2 81 (h := a1_ 4 83 (h := a1_ 5 84 (h := a1_ 6 85 (h := a1_ 7 86 (h := tk_ 3 82 (h := tk_ 8 87 (h := a1_ 9 88 (h := ?_))))))))))
         refine dn_ ?_
         try go_wp2
         go_ret
         exact ⟨re_, bs0_ HB.out⟩
       · rw [if_neg c33] at H
         have c33b0 := decide_eq_false c33
         clear c33
         revert H
         refine ng_ fun c38 => ng_ fun c39 => ob_ fun t361 A40 => ?_
         intro H
         have c38b0 := decide_eq_true c38
         clear c38
         have c39b0 := decide_eq_true c39
         clear c39
         have H' := mkA H
         clear H
         obtain ⟨Ao41, co41, eo41⟩ := Kd.R_slice HO_7.out
         subst eo41
         obtain ⟨ad353, e353, hx353_0⟩ := Kd.at_int (Kd.R_reads' HO_7.out).2.2 ((rd_T109 l2 x8_1).f0) dt_ dt_
         cases e353
         have p353 : (0 ≤ (((rd_T109 l2 x8_1).f0) : Int)) = True := eq_true dt_
         have q353 : (((rd_T109 l2 x8_1).f0) < (x7_1.length : Int)) = True := eq_true dt_
         have p31 : 0 ≤ (((rd_T109 l2 x8_1).f0) : Int) := dt_
         have q31 : (((rd_T109 l2 x8_1).f0) : Int) < ((x7_1.length : Int) : Int) := dt_
         obtain ⟨go31, co31, eo31, gb31, gl31, cl31, HG31⟩ := Kd.R_form HO_7.out (by omega)
         (first | cases eo31 | (injection eo31 with ea_ en_ ec_; (first | subst ea_ | (injection ea_ with ea_; subst ea_)); subst ec_; clear en_))
         have GB31 := mkA gb31
         have GG31 := mkA HG31
         clear gb31 gl31 HG31
         (first | simp only [add_plain] at hx353_0 | skip)
         obtain ⟨hx31_0, hf31_0⟩ := Kd.R_celln 0 HO_7.out (((rd_T109 l2 x8_1).f0) : Int) p31 q31
         replace p31 := eq_true p31
         replace q31 := eq_true q31
         have HP42 := Kd.R_putg HO_7.out (((rd_T109 l2 x8_1).f0) : Int) (wrap64 ((rd x7_1 ((rd_T109 l2 x8_1).f0)) + 1))
         try go_wp2_with (first | ((with_reducible refine gate_store (t := 2) (p := 78) rfl ?_); refine store_event (t := 2) (p := 78) (v := ?vo_w43) (w1 := (wc.setCell ⟨go31, (((rd_T109 l2 x8_1).f0) : Int).toNat, none⟩ (.int .i64 (wrap64 ((rd x7_1 ((rd_T109 l2 x8_1).f0)) + 1))))) ?hg ?ho ?hn ?hr ?_; (case ho => rfl); (case hg => rfl); (case hn => rfl); (case hr => first | (go_simp; done) | (go_simp; rfl)); intro w43 hw; have hg : wc.grownBy w43 (some go31) := (by rw [hw]; exact HP42.2); have hp_ : Kd.R (Kd.int .i64) 2 w43 w.heap.size (fun _ => True) (.slice (some ⟨go31, 0, none⟩) x7_1.length co41) y354 := (by rw [hw, Ny354.out]; exact HP42.1); clear HP42; replace HO_7 := mkA (hp_); replace HB := mkA ((by rw [hw]; exact below_set (HB.out) GB31.out : Below w.heap.size w w43)); clear hg hw hp_))
         replace HO_7 := mkA (Kd.R_drew HO_7.out)
         replace HB := mkA (below_drew1 HB.out)
         have p355 : 0 ≤ (((rd_T109 l2 x8_1).f0) : Int) := dt_
         have q355 : ((rd_T109 l2 x8_1).f0) < (y354.length : Int) := (by have h_ : (((rd_T109 l2 x8_1).f0) : Int) < ((x7_1.length : Int) : Int) := dt_; first | (have e_ := (Kd.R_reads' HO_7.out).1; omega) | simpa only [Ny354.out, List.length_set] using h_)
         have ql355 : ((((rd_T109 l2 x8_1).f0) : Int) < ((x7_1.length : Int) : Int)) = True := eq_true (dt_)
         obtain ⟨ad355, e355, hx355_0⟩ := Kd.at_int (Kd.R_reads' HO_7.out).2.2 ((rd_T109 l2 x8_1).f0) p355 q355
         obtain rfl : (⟨go31, 0, none⟩ : Addr) = ad355 := (by injection e355)
         (first | simp only [add_plain] at hx355_0 | simp only [add_at] at hx355_0 | simp only [Addr.add, Nat.zero_add] at hx355_0 | skip)
         replace p355 := eq_true p355
         replace q355 := eq_true q355
         obtain ⟨ad356, A356_1, c356_1, e356, hw356_0, hw356_1, hw356_2, hw356_3, hl356_1, hi356_1⟩ := at_T53 HR1.out ((rd_T109 l2 x8_1).f0) dt_ dt_
         cases e356
         have HR356_1 := mkA hi356_1
         have HC356_1 := mkA hl356_1
         clear hi356_1 hl356_1
         obtain ⟨hx356_0, hx356_1, hx356_2, hx356_3⟩ := b4_ HB.out hw356_0 hw356_1 hw356_2 hw356_3
         have p356 : (0 ≤ (((rd_T109 l2 x8_1).f0) : Int)) = True := eq_true dt_
         have q356 : (((rd_T109 l2 x8_1).f0) < (l1.length : Int)) = True := eq_true dt_
         refine st_ 10 (fun w' => C_ hx355_0 w' ∧ C_ hw356_0 w' ∧ C_ hw356_1 w' ∧ C_ hw356_2 w' ∧ C_ hw356_3 w') [] spec_l19Laid.tab9 spec_l19Laid.bits9 sp_ fun hHeld HT_ HW_ => ?_
         generalize w43.drew = w44 at HO_7 HB HR356_1 hx355_0 hx356_0 hx356_1 hx356_2 hx356_3 hHeld ⊢
         refine a1_ 0 79 (h := a1_ 1 80 (h := a1_ 2 81 (h := a1_ 4 83 (h := a1_ 5 84 (h := a1_ 6 85 (h := a1_ 7 86 (h := tk_ 3 82 (h := tk_ 8 87 (h := a1_ 9 88 (h := ?_))))))))))
         refine dn_ ?_
         try go_wp2
         replace HO_7 := mkA (Kd.R_drew HO_7.out)
         replace HB := mkA (below_drew1 HB.out)
         obtain ⟨ad357, A357_1, c357_1, e357, hw357_0, hw357_1, hw357_2, hw357_3, hl357_1, hi357_1⟩ := at_T53 HR1.out ((rd_T109 l2 x8_1).f0) dt_ dt_
         obtain rfl : ad356 = ad357 := (by injection e357)
         have HR357_1 := mkA hi357_1
         have HC357_1 := mkA hl357_1
         clear hi357_1 hl357_1
         obtain ⟨hx357_0, hx357_1, hx357_2, hx357_3⟩ := b4_ HB.out hw357_0 hw357_1 hw357_2 hw357_3
         have p357 : (0 ≤ (((rd_T109 l2 x8_1).f0) : Int)) = True := eq_true dt_
         have q357 : (((rd_T109 l2 x8_1).f0) < (l1.length : Int)) = True := eq_true dt_
         obtain ⟨ad358, e358, hw358_0, hw358_1, hw358_2, hw358_3⟩ := at_T109 HR2.out x8_1 dt_ dt_
         obtain rfl : ad339 = ad358 := (by injection e358)
         obtain ⟨hx358_0, hx358_1, hx358_2, hx358_3⟩ := b4_ HB.out hw358_0 hw358_1 hw358_2 hw358_3
         have p358 : (0 ≤ (x8_1 : Int)) = True := eq_true dt_
         have q358 : (x8_1 < (l2.length : Int)) = True := eq_true dt_
         obtain ⟨ad359, e359, hw359_0, hw359_1, hw359_2, hw359_3⟩ := at_T109 HR2.out x8_1 dt_ dt_
         obtain rfl : ad339 = ad359 := (by injection e359)
         obtain ⟨hx359_0, hx359_1, hx359_2, hx359_3⟩ := b4_ HB.out hw359_0 hw359_1 hw359_2 hw359_3
         have p359 : (0 ≤ (x8_1 : Int)) = True := eq_true dt_
         have q359 : (x8_1 < (l2.length : Int)) = True := eq_true dt_
         obtain ⟨ad360, e360, hw360_0, hw360_1, hw360_2, hw360_3⟩ := at_T109 HR2.out x8_1 dt_ dt_
         obtain rfl : ad339 = ad360 := (by injection e360)
         obtain ⟨hx360_0, hx360_1, hx360_2, hx360_3⟩ := b4_ HB.out hw360_0 hw360_1 hw360_2 hw360_3
         have p360 : (0 ≤ (x8_1 : Int)) = True := eq_true dt_
         have q360 : (x8_1 < (l2.length : Int)) = True := eq_true dt_
         refine st_ 20 (fun w' => C_ hw357_0 w' ∧ C_ hw357_1 w' ∧ C_ hw357_2 w' ∧ C_ hw357_3 w' ∧ C_ hw358_0 w' ∧ C_ hw358_1 w' ∧ C_ hw358_2 w' ∧ C_ hw358_3 w' ∧ C_ hw359_0 w' ∧ C_ hw359_1 w' ∧ C_ hw359_2 w' ∧ C_ hw359_3 w' ∧ C_ hw360_0 w' ∧ C_ hw360_1 w' ∧ C_ hw360_2 w' ∧ C_ hw360_3 w') [] spec_l19Laid.tab11 spec_l19Laid.bits11 sp_ fun hHeld HT_ HW_ => ?_
         generalize w44.drew = w45 at HO_7 HB HR357_1 hx357_0 hx357_1 hx357_2 hx357_3 hx358_0 hx358_1 hx358_2 hx358_3 hx359_0 hx359_1 hx359_2 hx359_3 hx360_0 hx360_1 hx360_2 hx360_3 hHeld ⊢
         refine a1_ 0 89 (h := a1_ 1 90 (h := a1_ 2 91 (h := a1_ 3 92 (h := a1_ 4 93 (h := a1_ 5 94 (h := a1_ 6 95 (h := a1_ 8 97 (h := a1_ 9 98 (h := a1_ 10 99 (h := a1_ 11 100 (h := a1_ 13 102 (h := a1_ 14 103 (h := a1_ 15 104 (h := a1_ 16 105 (h := tk_ 7 96 (h := tk_ 12 101 (h := tk_ 17 106 (h := ?_))))))))))))))))))
         refine on_ 18 107 fun K hK => ?_
         refine go_ Try.func77 #[.pointer (some (ad356.add (((rd_T109 l2 x8_1).f0).toNat * 4))), .int .i64 ((rd_T109 l2 x8_1).f1), .int .i64 ((rd_T109 l2 x8_1).f2), .int .i64 ((rd_T109 l2 x8_1).f3)] ?_
         with_reducible refine (spec_l19Cells.calls kj9 _ [rd_T53 l1 ((rd_T109 l2 x8_1).f0)] ((rd_T109 l2 x8_1).f1) ((rd_T109 l2 x8_1).f2) ((rd_T109 l2 x8_1).f3) t361 _ ?side1 A40.out).mono ?_
         (case side1 => refine Go.Proofs.YtakagkflgkoiiaaX.rp_elem (xs := l1) z53 ((rd_T109 l2 x8_1).f0) (of_eq_true p357) (of_eq_true q357) ?_; repeat (first | exact (Kd.C_below HR1.out HB.out) | (with_reducible refine Kd.C_alloc ?_ _) | (with_reducible refine Kd.C_drewN ?_ _) | (with_reducible refine Kd.C_drew ?_)))
         rintro e w46 ⟨v362, rfl, ho0, hb⟩
         refine ⟨_, rfl, ?_⟩
         replace HO_7 := mkA (Kd.R_below (r_ HO_7.out) hb)
         have HO363 := mkA (Kd.R_lower ho0 (below_size (bs0_ HB.out)))
         replace HB := mkA (below_step (bs0_ HB.out) hb)
         (try clear hb)
         (try clear hb2)
         (try clear hk)
         (try clear hi)
         (try clear ho0)
         refine hK.out _ _ sp_ fun hHeld => ?_
         clear hK K
         refine nm_ 107 ?_
         refine a1_ 19 10 (h := ?_)
         refine dn_ ?_
         try go_wp2
         go_loopg [11] kj9 (fun kq v11 w' => ∃ (x11_3 : Int), v11 = .int .i64 x11_3 ∧ Aside0 (spec_l19Laid.l1 kq l1 l2 y354 x8_1 t361 x11_3 l0 = some r) ∧ Aside0 (kq ≤ kj9) ∧ Aside0 (Kd.R (Kd.int .i64) 2 w' w.heap.size (fun _ => True) (.slice (some ⟨go31, 0, none⟩) x7_1.length co41) y354) ∧ Aside0 (Kd.R k105 105 w' w.heap.size (fun _ => True) v362 t361) ∧ Aside0 (Below w.heap.size w w'))
         case atStart => exact ⟨(0), rf_, H', ⟨Nat.le_refl _⟩, ⟨r_ HO_7.out⟩, ⟨r_ HO363.out⟩, ⟨bs0_ HB.out⟩⟩
         case round =>
          clear H'
          try clear c28 c29 c29b0 c30 c30b0 c32 c32b0 c33 c33b0 c38 c38b0 c39 c39b0
          try clear p31 p342 p353 p355 p356 p357 p358 p359 p360
          try clear q31 q342 q353 q355 q356 q357 q358 q359 q360
          try clear hx31_0 hx341_0 hx341_1 hx341_2 hx341_3 hx342_0 hx342_1 hx342_2 hx353_0 hx355_0 hx356_0 hx356_1 hx356_2 hx356_3 hx357_0 hx357_1 hx357_2 hx357_3 hx358_0 hx358_1 hx358_2 hx358_3 hx359_0 hx359_1 hx359_2 hx359_3 hx360_0 hx360_1 hx360_2 hx360_3
          obtain ⟨x11_3, rfl, HA, HK3, HO_7, HO_10, HB⟩ := hrel
          have hl7_3 := (Kd.R_reads' HO_7.out).1
          rw [hl7_3] at HO_7
          (try simp only [hl7_3])
          (try simp only [hl7_3] at HO_10)
          cases gk with
          | zero => exact absurd HA.out (by simp [spec_l19Laid.l1])
          | succ k3 =>
           have H := HA.out
           clear HA
           simp only [spec_l19Laid.l1] at H
           by_cases c47 : x11_3 < (t361.length : Int)
           rotate_left
           · rw [if_neg c47] at H
             have c47b0 := decide_eq_false c47
             (try simp only [hl7_3] at c47b0)
             clear c47
             have H' := mkA H
             clear H
             obtain ⟨Ao58, co58, eo58⟩ := Kd.R_slice HO_10.out
             subst eo58
             go_wp2
             (try simp only [← hl7_3])
             go_roundg k3
             case measure => have := HK1.out; have := HJ9.out; have := HK3.out; omega
             case rel => exact ⟨(y354), (wrap64 (x8_1 + 1)), rf_, H', ⟨on3_ HK1.out HJ9.out HK3.out⟩, ⟨by (try simp only [hl7_3]); refine r_ ?_; exact HO_7.out⟩, ⟨bs0_ HB.out⟩⟩
           rw [if_pos c47] at H
           have c47b0 := decide_eq_true c47
           (try simp only [hl7_3] at c47b0)
           clear c47
           revert H
           refine ng_ fun c48 => ng_ fun c49 => ?_
           intro H
           have c48b0 := decide_eq_true c48
           clear c48
           have c49b0 := decide_eq_true c49
           (try simp only [hl7_3] at c49b0)
           have c49b1 : decide (0 < l0.length) = true := decide_eq_true (by omega)
           (try simp only [hl7_3] at c49b1)
           clear c49
           by_cases c50 : ((rd_T105 t361 x11_3).f0) ≥ ((rd_T27 l0 0).f0)
           · rw [if_pos c50] at H
             have c50b0 := decide_eq_true c50
             clear c50
             obtain rfl := Option.some.inj H
             obtain ⟨Ao51, co51, eo51⟩ := Kd.R_slice HO_10.out
             subst eo51
             try go_wp2
             replace HO_7 := mkA (Kd.R_drew HO_7.out)
             replace HO_10 := mkA (Kd.R_drew HO_10.out)
             replace HB := mkA (below_drew1 HB.out)
             obtain ⟨ad364, e364, hx364_0, hx364_1⟩ := at_T105 (Kd.R_reads' HO_10.out).2.2 x11_3 dt_ dt_
             cases e364
             have p364 : (0 ≤ (x11_3 : Int)) = True := eq_true dt_
             have q364 : (x11_3 < (t361.length : Int)) = True := eq_true dt_
             obtain ⟨ad365, A365_2, c365_2, e365, hw365_0, hw365_1, hw365_2, hl365_2, hi365_2⟩ := at0_T27 HR0.out dt_
             cases e365
             have HR365_2 := mkA hi365_2
             have HC365_2 := mkA hl365_2
             clear hi365_2 hl365_2
             obtain ⟨hx365_0, hx365_1, hx365_2⟩ := b3_ HB.out hw365_0 hw365_1 hw365_2
             have p365 : (0 ≤ (0 : Int)) = True := eq_true (by omega)
             have q365 : (0 < (l0.length : Int)) = True := eq_true dt_
             have qi365 := qn_ q365
             refine st_ 22 (fun w' => C_ hx364_0 w' ∧ C_ hx364_1 w' ∧ C_ hw365_0 w' ∧ C_ hw365_1 w' ∧ C_ hw365_2 w') [] spec_l19Laid.tab15 spec_l19Laid.bits15 sp_ fun hHeld HT_ HW_ => ?_
             generalize wr.drew = w52 at HO_7 HO_10 HB HR365_2 hx364_0 hx364_1 hx365_0 hx365_1 hx365_2 hHeld ⊢
             refine a1_ 0 114 (h := a1_ 1 115 (h := a1_ 2 116 (h := a1_ 3 117 (h := a1_ 5 119 (h := a1_ 6 120 (h := a1_ 7 121 (h := tk_ 4 118 (h := tk_ 8 122 (h := a1_ 9 123 (h := a1_ 10 124 (h := a0_ 11 125 (h := a0_ 12 126 (h := a0_ 13 127 (h := a0_ 14 128 (h := a0_ 15 129 (h := a0_ 16 130 (h := a0_ 17 131 (h := a0_ 18 132 (h := a0_ 19 133 (h := a0_ 20 134 (h := a1_ 21 135 (h := ?_))))))))))))))))))))))
             refine dn_ ?_
             try go_wp2
             go_ret
             exact ⟨re_, bs0_ HB.out⟩
           · rw [if_neg c50] at H
             have c50b0 := decide_eq_false c50
             clear c50
             by_cases c53 : ((rd_T105 t361 x11_3).f1) ≥ ((rd_T27 l0 0).f1)
             · rw [if_pos c53] at H
               have c53b0 := decide_eq_true c53
               clear c53
               obtain rfl := Option.some.inj H
               obtain ⟨Ao54, co54, eo54⟩ := Kd.R_slice HO_10.out
               subst eo54
               try go_wp2
               replace HO_7 := mkA (Kd.R_drew HO_7.out)
               replace HO_10 := mkA (Kd.R_drew HO_10.out)
               replace HB := mkA (below_drew1 HB.out)
               obtain ⟨ad364, e364, hx364_0, hx364_1⟩ := at_T105 (Kd.R_reads' HO_10.out).2.2 x11_3 dt_ dt_
               cases e364
               have p364 : (0 ≤ (x11_3 : Int)) = True := eq_true dt_
               have q364 : (x11_3 < (t361.length : Int)) = True := eq_true dt_
               obtain ⟨ad365, A365_2, c365_2, e365, hw365_0, hw365_1, hw365_2, hl365_2, hi365_2⟩ := at0_T27 HR0.out dt_
               cases e365
               have HR365_2 := mkA hi365_2
               have HC365_2 := mkA hl365_2
               clear hi365_2 hl365_2
               obtain ⟨hx365_0, hx365_1, hx365_2⟩ := b3_ HB.out hw365_0 hw365_1 hw365_2
               have p365 : (0 ≤ (0 : Int)) = True := eq_true (by omega)
               have q365 : (0 < (l0.length : Int)) = True := eq_true dt_
               have qi365 := qn_ q365
               obtain ⟨ad366, e366, hx366_0, hx366_1⟩ := at_T105 (Kd.R_reads' HO_10.out).2.2 x11_3 dt_ dt_
               obtain rfl : ad364 = ad366 := (by injection e366)
               have p366 : (0 ≤ (x11_3 : Int)) = True := eq_true dt_
               have q366 : (x11_3 < (t361.length : Int)) = True := eq_true dt_
               obtain ⟨ad367, A367_2, c367_2, e367, hw367_0, hw367_1, hw367_2, hl367_2, hi367_2⟩ := at0_T27 HR0.out dt_
               obtain rfl : ad365 = ad367 := (by injection e367)
               have HR367_2 := mkA hi367_2
               have HC367_2 := mkA hl367_2
               clear hi367_2 hl367_2
               obtain ⟨hx367_0, hx367_1, hx367_2⟩ := b3_ HB.out hw367_0 hw367_1 hw367_2
               have p367 : (0 ≤ (0 : Int)) = True := eq_true (by omega)
               have q367 : (0 < (l0.length : Int)) = True := eq_true dt_
               have qi367 := qn_ q367
               have ea_ := Option.some.inj (hx365_2.symm.trans hx367_2)
               injection ea_ with ea_ en_ ec_
               subst ea_
               subst ec_
               clear en_
               refine st_ 22 (fun w' => C_ hx364_0 w' ∧ C_ hx364_1 w' ∧ C_ hw365_0 w' ∧ C_ hw365_1 w' ∧ C_ hw365_2 w' ∧ C_ hx366_0 w' ∧ C_ hx366_1 w' ∧ C_ hw367_0 w' ∧ C_ hw367_1 w' ∧ C_ hw367_2 w') [] spec_l19Laid.tab15 spec_l19Laid.bits15 sp_ fun hHeld HT_ HW_ => ?_
               generalize wr.drew = w55 at HO_7 HO_10 HB HR365_2 HR367_2 hx364_0 hx364_1 hx365_0 hx365_1 hx365_2 hx366_0 hx366_1 hx367_0 hx367_1 hx367_2 hHeld ⊢
               refine a1_ 0 114 (h := a1_ 1 115 (h := a1_ 2 116 (h := a1_ 3 117 (h := a1_ 5 119 (h := a1_ 6 120 (h := a1_ 7 121 (h := tk_ 4 118 (h := tk_ 8 122 (h := a1_ 9 123 (h := a1_ 10 124 (h := a1_ 11 125 (h := a1_ 12 126 (h := a1_ 13 127 (h := a1_ 14 128 (h := a1_ 16 130 (h := a1_ 17 131 (h := a1_ 18 132 (h := tk_ 15 129 (h := tk_ 19 133 (h := a1_ 20 134 (h := a1_ 21 135 (h := ?_))))))))))))))))))))))
               refine dn_ ?_
               try go_wp2
               go_ret
               exact ⟨re_, bs0_ HB.out⟩
             · rw [if_neg c53] at H
               have c53b0 := decide_eq_false c53
               clear c53
               have H' := mkA H
               clear H
               obtain ⟨Ao56, co56, eo56⟩ := Kd.R_slice HO_10.out
               subst eo56
               try go_wp2
               replace HO_7 := mkA (Kd.R_drew HO_7.out)
               replace HO_10 := mkA (Kd.R_drew HO_10.out)
               replace HB := mkA (below_drew1 HB.out)
               obtain ⟨ad364, e364, hx364_0, hx364_1⟩ := at_T105 (Kd.R_reads' HO_10.out).2.2 x11_3 dt_ dt_
               cases e364
               have p364 : (0 ≤ (x11_3 : Int)) = True := eq_true dt_
               have q364 : (x11_3 < (t361.length : Int)) = True := eq_true dt_
               obtain ⟨ad365, A365_2, c365_2, e365, hw365_0, hw365_1, hw365_2, hl365_2, hi365_2⟩ := at0_T27 HR0.out dt_
               cases e365
               have HR365_2 := mkA hi365_2
               have HC365_2 := mkA hl365_2
               clear hi365_2 hl365_2
               obtain ⟨hx365_0, hx365_1, hx365_2⟩ := b3_ HB.out hw365_0 hw365_1 hw365_2
               have p365 : (0 ≤ (0 : Int)) = True := eq_true (by omega)
               have q365 : (0 < (l0.length : Int)) = True := eq_true dt_
               have qi365 := qn_ q365
               obtain ⟨ad366, e366, hx366_0, hx366_1⟩ := at_T105 (Kd.R_reads' HO_10.out).2.2 x11_3 dt_ dt_
               obtain rfl : ad364 = ad366 := (by injection e366)
               have p366 : (0 ≤ (x11_3 : Int)) = True := eq_true dt_
               have q366 : (x11_3 < (t361.length : Int)) = True := eq_true dt_
               obtain ⟨ad367, A367_2, c367_2, e367, hw367_0, hw367_1, hw367_2, hl367_2, hi367_2⟩ := at0_T27 HR0.out dt_
               obtain rfl : ad365 = ad367 := (by injection e367)
               have HR367_2 := mkA hi367_2
               have HC367_2 := mkA hl367_2
               clear hi367_2 hl367_2
               obtain ⟨hx367_0, hx367_1, hx367_2⟩ := b3_ HB.out hw367_0 hw367_1 hw367_2
               have p367 : (0 ≤ (0 : Int)) = True := eq_true (by omega)
               have q367 : (0 < (l0.length : Int)) = True := eq_true dt_
               have qi367 := qn_ q367
               have ea_ := Option.some.inj (hx365_2.symm.trans hx367_2)
               injection ea_ with ea_ en_ ec_
               subst ea_
               subst ec_
               clear en_
               refine st_ 22 (fun w' => C_ hx364_0 w' ∧ C_ hx364_1 w' ∧ C_ hw365_0 w' ∧ C_ hw365_1 w' ∧ C_ hw365_2 w' ∧ C_ hx366_0 w' ∧ C_ hx366_1 w' ∧ C_ hw367_0 w' ∧ C_ hw367_1 w' ∧ C_ hw367_2 w') [] spec_l19Laid.tab15 spec_l19Laid.bits15 sp_ fun hHeld HT_ HW_ => ?_
               generalize wr.drew = w57 at HO_7 HO_10 HB HR365_2 HR367_2 hx364_0 hx364_1 hx365_0 hx365_1 hx365_2 hx366_0 hx366_1 hx367_0 hx367_1 hx367_2 hHeld ⊢
               refine a1_ 0 114 (h := a1_ 1 115 (h := a1_ 2 116 (h := a1_ 3 117 (h := a1_ 5 119 (h := a1_ 6 120 (h := a1_ 7 121 (h := tk_ 4 118 (h := tk_ 8 122 (h := a1_ 9 123 (h := a1_ 10 124 (h := a1_ 11 125 (h := a1_ 12 126 (h := a1_ 13 127 (h := a1_ 14 128 (h := a1_ 16 130 (h := a1_ 17 131 (h := a1_ 18 132 (h := tk_ 15 129 (h := tk_ 19 133 (h := a1_ 20 134 (h := a1_ 21 135 (h := ?_))))))))))))))))))))))
               refine dn_ ?_
               try go_wp2
               (try simp only [← hl7_3])
               go_roundg k3
               case measure => have := HK1.out; have := HJ9.out; have := HK3.out; omega
               case rel => exact ⟨(wrap64 (x11_3 + 1)), rf_, H', ⟨on3_ HK1.out HJ9.out HK3.out⟩, ⟨by (try simp only [hl7_3]); refine r_ ?_; exact HO_7.out⟩, ⟨by (try simp only [hl7_3]); refine r_ ?_; exact HO_10.out⟩, ⟨bs0_ HB.out⟩⟩
end Go.Proofs.Ytakagkflgkoiiaa.GFnExactIsCover
