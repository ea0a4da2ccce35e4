-- Written by the session's own program (gen.py) out of the translation's print. Lean checks it.
import Derived.Test.YtnidibnhojedoaaGFnExactSymmetriesOfx0
import Derived.Test.YtnidibnhojedoaaGFnExactSymmetriesOfx4
namespace Go.Proofs.Ytnidibnhojedoaa.GFnExactSymmetriesOf
open Go.RowKit Go.Proofs.YtnidibnhojedoaaW.PrintWords Go.Proofs.YtnidibnhojedoaaW.PrintLast Go.Proofs.YtnidibnhojedoaaW.PrintMore
attribute [local go_sem] max2_int min2_int max_two min_two max_three min_three max_four min_four   -- for this text's walks alone
set_option linter.unusedVariables false
set_option linter.unusedSimpArgs false

/-! ### spec_l18Move: function 58 -/
mutual
def spec_l18Move.j0 : Nat → Int → Int → List (S29) → List (S31) → Option (Int × Int)
  | 0, _, _, _, _ => none
  | k + 1, x2, x3, x960, x961 => if 0 < (x961.length : Int) then (spec_l18Move.l0 k x2 x3 (Int.tmod ((rd_T31 x961 0).f0) 4) x960 x961) else (none)
def spec_l18Move.l0 : Nat → Int → Int → Int → List (S29) → List (S31) → Option (Int × Int)
  | 0, _, _, _, _, _ => none
  | k + 1, x2, x3, x10, x960, x961 => if x10 > 0 then (spec_l18Move.l0 k (wrap64 ((wrap64 (-x3)) - 1)) x2 (wrap64 (x10 - 1)) x960 x961) else (if 0 < (x961.length : Int) then (if 0 < (x960.length : Int) then ((spec_l18Mod.f (wrap64 (x2 + ((rd_T31 x961 0).f1))) ((rd_T29 x960 0).f0)).bind fun t183 => ((spec_l18Mod.f (wrap64 (x3 + ((rd_T31 x961 0).f2))) ((rd_T29 x960 0).f1)).bind fun t186 => (some (t183, t186)))) else (none)) else (none))
end
def spec_l18Move.f (k : Nat) (l0 : List (S29)) (l1 : List (S31)) (a2 : Int) (a3 : Int) : Option (Int × Int) := if 0 < (l1.length : Int) then (if ((rd_T31 l1 0).f0) ≥ 4 then (spec_l18Move.j0 k (wrap64 ((wrap64 (-a2)) - 1)) a3 l0 l1) else (spec_l18Move.j0 k a2 a3 l0 l1)) else (none)
theorem spec_l18Move.mono_l : ∀ k, (∀ y0 y1 y2 y3, LeO (spec_l18Move.j0 k y0 y1 y2 y3) (spec_l18Move.j0 (k + 1) y0 y1 y2 y3)) ∧ (∀ y0 y1 y2 y3 y4, LeO (spec_l18Move.l0 k y0 y1 y2 y3 y4) (spec_l18Move.l0 (k + 1) y0 y1 y2 y3 y4))
  | 0 => ⟨fun _ _ _ _ r h => by simp [spec_l18Move.j0] at h, fun _ _ _ _ _ r h => by simp [spec_l18Move.l0] at h⟩
  | k + 1 => by
    obtain ⟨ih0, ih1⟩ := spec_l18Move.mono_l k
    refine ⟨?_, ?_⟩
    · intro y0 y1 y2 y3
      unfold spec_l18Move.j0
      repeat' first
      | (with_reducible exact ih0 _ _ _ _)
      | (with_reducible exact ih1 _ _ _ _ _)
      | (with_reducible exact LeO.refl _)
      | (with_reducible exact LeO.none _)
      | (with_reducible refine LeO.ite ?_ ?_)
      | (with_reducible refine LeO.bind ?_ (fun _ => ?_))
      | exact ih0 _ _ _ _
      | exact ih1 _ _ _ _ _
      | exact LeO.none _
      | refine LeO.ite ?_ ?_
      | refine LeO.bind ?_ (fun _ => ?_)
    · intro y0 y1 y2 y3 y4
      unfold spec_l18Move.l0
      repeat' first
      | (with_reducible exact ih0 _ _ _ _)
      | (with_reducible exact ih1 _ _ _ _ _)
      | (with_reducible exact LeO.refl _)
      | (with_reducible exact LeO.none _)
      | (with_reducible refine LeO.ite ?_ ?_)
      | (with_reducible refine LeO.bind ?_ (fun _ => ?_))
      | exact ih0 _ _ _ _
      | exact ih1 _ _ _ _ _
      | exact LeO.none _
      | refine LeO.ite ?_ ?_
      | refine LeO.bind ?_ (fun _ => ?_)
theorem spec_l18Move.mono : ∀ a0 a1 a2 a3 k, LeO (spec_l18Move.f k a0 a1 a2 a3) (spec_l18Move.f (k + 1) a0 a1 a2 a3) := by
  intro a0 a1 a2 a3 k
  obtain ⟨ih0, ih1⟩ := spec_l18Move.mono_l k
  unfold spec_l18Move.f
  repeat' first
      | (with_reducible exact ih0 _ _ _ _)
      | (with_reducible exact ih1 _ _ _ _ _)
      | (with_reducible exact LeO.refl _)
      | (with_reducible exact LeO.none _)
      | (with_reducible refine LeO.ite ?_ ?_)
      | (with_reducible refine LeO.bind ?_ (fun _ => ?_))
      | exact ih0 _ _ _ _
      | exact ih1 _ _ _ _ _
      | exact LeO.none _
      | refine LeO.ite ?_ ?_
      | refine LeO.bind ?_ (fun _ => ?_)
def spec_l18Move.T9 : Bool × List (List Nat × List Nat) := (true, [([], []), ([], []), ([1], [1]), ([2], [2]), ([3], [3]), ([0, 4], [0, 4]), ([], []), ([6], [6]), ([7], [7]), ([8], [8]), ([5, 9], [5, 9]), ([], []), ([], []), ([12], [12]), ([13], [13]), ([14], [14]), ([11, 15], [11, 15]), ([], []), ([17], [17]), ([18], [18]), ([19], [19]), ([16, 20, 10], [16, 20]), ([10, 21, 0, 1, 2, 3, 4, 5, 6, 7, 8, 9, 10], [10]), ([21, 22, 0, 1, 2, 3, 4, 5, 6, 7, 8, 9, 10, 11, 12, 13, 14, 15, 16, 17, 18, 19, 20, 21, 22], [21])])
def spec_l18Move.B9 : List Nat := [0, 0, 2, 6, 14, 31, 0, 64, 192, 448, 1023, 0, 0, 4096, 12288, 28672, 63488, 0, 131072, 393216, 917504, 2097151, 4194303, 8388607]
theorem spec_l18Move.tab9 : rtab .any (opsOf Try.f58 9) = spec_l18Move.T9 := by kernel_rfl
theorem spec_l18Move.bits9 : waitsOk spec_l18Move.T9.2 spec_l18Move.B9 = true := by kernel_rfl
open List renaming setIfInBounds_toArray → sA, set_cons_zero → sB, set_cons_succ → sC
open Go.Proofs.YtnidibnhojedoaaW.PrintWords.Aside0 renaming mk → mkA
open Go.Proofs.YtnidibnhojedoaaX (dt_ bc_ p0_ p1_ bl_ cb_ bs0_ bs1_ bs2_ bs3_ bs4_ bs5_ bs6_ bs7_ bs8_ bs9_ bs10_ bs11_ bs12_)
abbrev spec_l18Move.d0 : Array Bool := #[false, false, false, false, false, false, false, false, false, false, false, false, false, false, false, false, false, false, false, false, false, false, false, false]
abbrev spec_l18Move.d1 : Array Bool := #[true, false, false, false, false, false, false, false, false, false, false, false, false, false, false, false, false, false, false, false, false, false, false, false]
abbrev spec_l18Move.d2 : Array Bool := #[true, true, false, false, false, false, false, false, false, false, false, false, false, false, false, false, false, false, false, false, false, false, false, false]
abbrev spec_l18Move.d3 : Array Bool := #[true, true, true, false, false, false, false, false, false, false, false, false, false, false, false, false, false, false, false, false, false, false, false, false]
abbrev spec_l18Move.d4 : Array Bool := #[true, true, true, true, false, false, false, false, false, false, false, false, false, false, false, false, false, false, false, false, false, false, false, false]
abbrev spec_l18Move.d5 : Array Bool := #[true, true, true, true, false, false, true, false, false, false, false, false, false, false, false, false, false, false, false, false, false, false, false, false]
abbrev spec_l18Move.d6 : Array Bool := #[true, true, true, true, false, false, true, true, false, false, false, false, false, false, false, false, false, false, false, false, false, false, false, false]
abbrev spec_l18Move.d7 : Array Bool := #[true, true, true, true, false, false, true, true, true, false, false, false, false, false, false, false, false, false, false, false, false, false, false, false]
abbrev spec_l18Move.d8 : Array Bool := #[true, true, true, true, false, false, true, true, true, false, false, true, false, false, false, false, false, false, false, false, false, false, false, false]
abbrev spec_l18Move.d9 : Array Bool := #[true, true, true, true, false, false, true, true, true, false, false, true, true, false, false, false, false, false, false, false, false, false, false, false]
abbrev spec_l18Move.d10 : Array Bool := #[true, true, true, true, false, false, true, true, true, false, false, true, true, true, false, false, false, false, false, false, false, false, false, false]
abbrev spec_l18Move.d11 : Array Bool := #[true, true, true, true, false, false, true, true, true, false, false, true, true, true, true, false, false, false, false, false, false, false, false, false]
abbrev spec_l18Move.d12 : Array Bool := #[true, true, true, true, false, false, true, true, true, false, false, true, true, true, true, false, false, true, false, false, false, false, false, false]
abbrev spec_l18Move.d13 : Array Bool := #[true, true, true, true, false, false, true, true, true, false, false, true, true, true, true, false, false, true, true, false, false, false, false, false]
abbrev spec_l18Move.d14 : Array Bool := #[true, true, true, true, false, false, true, true, true, false, false, true, true, true, true, false, false, true, true, true, false, false, false, false]
abbrev spec_l18Move.d15 : Array Bool := #[true, true, true, true, true, false, true, true, true, false, false, true, true, true, true, false, false, true, true, true, false, false, false, false]
abbrev spec_l18Move.d16 : Array Bool := #[true, true, true, true, true, true, true, true, true, false, false, true, true, true, true, false, false, true, true, true, false, false, false, false]
abbrev spec_l18Move.d17 : Array Bool := #[true, true, true, true, true, true, true, true, true, true, false, true, true, true, true, false, false, true, true, true, false, false, false, false]
abbrev spec_l18Move.d18 : Array Bool := #[true, true, true, true, true, true, true, true, true, true, false, true, true, true, true, true, false, true, true, true, false, false, false, false]
abbrev spec_l18Move.d19 : Array Bool := #[true, true, true, true, true, true, true, true, true, true, false, true, true, true, true, true, true, true, true, true, false, false, false, false]
abbrev spec_l18Move.d20 : Array Bool := #[true, true, true, true, true, true, true, true, true, true, false, true, true, true, true, true, true, true, true, true, true, false, false, false]
abbrev spec_l18Move.d21 : Array Bool := #[true, true, true, true, true, true, true, true, true, true, true, true, true, true, true, true, true, true, true, true, true, false, false, false]
abbrev spec_l18Move.d22 : Array Bool := #[true, true, true, true, true, true, true, true, true, true, true, true, true, true, true, true, true, true, true, true, true, true, false, false]
abbrev spec_l18Move.d23 : Array Bool := #[true, true, true, true, true, true, true, true, true, true, true, true, true, true, true, true, true, true, true, true, true, true, true, false]
abbrev spec_l18Move.d24 : Array Bool := #[true, true, true, true, true, true, true, true, true, true, true, true, true, true, true, true, true, true, true, true, true, true, true, true]
set_option maxHeartbeats 8000000 in
set_option maxRecDepth 100000 in
theorem spec_l18Move.calls (k : Nat) (A0 : Option Addr) (l0 : List (S29)) (A1 : Option Addr) (l1 : List (S31)) (a2 : Int) (a3 : Int) (r1 : Int) (r2 : Int) (w : World) (hr0 : Kd.C k29 w A0 l0.length l0) (hr1 : Kd.C k31 w A1 l1.length l1) (h : spec_l18Move.f k l0 l1 a2 a3 = some (r1, r2)) :
 Calls Try.prog 58 #[.pointer A0, .pointer A1, .int .i64 a2, .int .i64 a3] w fun e w' => e = .returned (.tuple #[.int .i64 r1, .int .i64 r2]) ∧ Below w.heap.size w w' := by
 have HR0 := mkA hr0
 clear hr0
 have HR1 := mkA hr1
 clear hr1
 have HB := mkA (Below.refl w.heap.size w)
 have H : (if 0 < (l1.length : Int) then (if ((rd_T31 l1 0).f0) ≥ 4 then (spec_l18Move.j0 k (wrap64 ((wrap64 (-a2)) - 1)) a3 l0 l1) else (spec_l18Move.j0 k a2 a3 l0 l1)) else (none)) = some (r1, r2) := h
 clear h
 by_cases c5 : 0 < (l1.length : Int)
 rotate_left
 · rw [if_neg c5] at H
   exact absurd H (by simp)

 rw [if_pos c5] at H
 have c5b0 : decide (0 < (l1.length : Int)) = true := decide_eq_true c5
 have c5b1 : decide (0 < l1.length) = true := decide_eq_true (by omega)
 clear c5
 have HC6 := mkA H
 clear H
 have p179 : 0 ≤ (0 : Int) := (by omega)
 have q179 : 0 < (l1.length : Int) := dt_
 obtain ⟨ad179, e179, hx179_0, hx179_1, hx179_2⟩ := at0_T31 HR1.out q179
 cases e179
 have qi179 : (0 < l1.length) = True := eq_true (by omega)
 replace p179 := eq_true p179
 replace q179 := eq_true q179
 go_enter Try.func58, Try.ntmps58
 go_upto_if 16 with (fail)
 go_cut [2] (fun v2 wc => ∃ (kq : Nat) (x2_5 : Int), v2 = .int .i64 x2_5 ∧ Aside0 (spec_l18Move.j0 kq x2_5 a3 l0 l1 = some (r1, r2)) ∧ Aside0 (kq ≤ k) ∧ Aside0 (Below w.heap.size w wc))
 case first =>
  have H := HC6.out
  clear HC6
  by_cases c7 : ((rd_T31 l1 0).f0) ≥ 4
  · rw [if_pos c7] at H
    have c7b0 : decide (4 ≤ ((rd_T31 l1 0).f0)) = true := decide_eq_true c7
    clear c7
    (first | rw [c7b0] | (simp only [i64_w, i32_w]; rw [c7b0]) | skip)
    have H' := mkA H
    clear H
    go_wp2
    go_meet
    case rel => exact ⟨_, (wrap64 ((wrap64 (-a2)) - 1)), (by first | rfl | (simp; done) | (simp [*]; done) | (simp [i64_w, i32_w]; done)), H', ⟨by first | omega | exact Nat.le_refl _⟩, ⟨by repeat (first | (with_reducible first | exact HB.out | apply below_alloc | apply pw_below_drewN | apply below_drew1) | exact HB.out)⟩⟩
  · rw [if_neg c7] at H
    have c7b0 : decide (4 ≤ ((rd_T31 l1 0).f0)) = false := decide_eq_false c7
    clear c7
    (first | rw [c7b0] | (simp only [i64_w, i32_w]; rw [c7b0]) | skip)
    have H' := mkA H
    clear H
    go_wp2
    go_meet
    case rel => exact ⟨_, (a2), (by first | rfl | (simp; done) | (simp [*]; done) | (simp [i64_w, i32_w]; done)), H', ⟨by first | omega | exact Nat.le_refl _⟩, ⟨by repeat (first | (with_reducible first | exact HB.out | apply below_alloc | apply pw_below_drewN | apply below_drew1) | exact HB.out)⟩⟩
 case rest =>
  clear HC6
  try clear p1
  try clear q1
  try clear hx1
  try clear qi1
  try clear p2
  try clear c5
  try clear c5b0
  try clear c5b1
  try clear p6
  try clear c7
  try clear c7b0
  try clear hx179_0
  try clear hx179_1
  try clear hx179_2
  try clear p179
  try clear q179
  obtain ⟨kq, x2_5, rfl, HA, HJ5, HB⟩ := hcut
  cases kq with
  | zero => exact absurd HA.out (by simp [spec_l18Move.j0])
  | succ kj5 =>
   have H := HA.out
   clear HA
   simp only [spec_l18Move.j0] at H
   by_cases c8 : 0 < (l1.length : Int)
   rotate_left
   · rw [if_neg c8] at H
     exact absurd H (by simp)
   rw [if_pos c8] at H
   have c8b0 : decide (0 < (l1.length : Int)) = true := decide_eq_true c8
   have c8b1 : decide (0 < l1.length) = true := decide_eq_true (by omega)
   clear c8
   have H' := mkA H
   clear H
   have p180 : 0 ≤ (0 : Int) := (by omega)
   have q180 : 0 < (l1.length : Int) := dt_
   obtain ⟨ad180, e180, hx180_0, hx180_1, hx180_2⟩ := at0_T31 HR1.out q180
   obtain rfl : ad179 = ad180 := (by injection e180)
   have qi180 : (0 < l1.length) = True := eq_true (by omega)
   replace hx180_0 := bc_ HB.out hx180_0
   replace hx180_1 := bc_ HB.out hx180_1
   replace hx180_2 := bc_ HB.out hx180_2
   replace p180 := eq_true p180
   replace q180 := eq_true q180
   go_wp2
   go_loopg [2, 3, 10] kj5 (fun kq v2 v3 v10 w' => ∃ (x2_2 : Int) (x3_2 : Int) (x10_2 : Int), v2 = .int .i64 x2_2 ∧ v3 = .int .i64 x3_2 ∧ v10 = .int .i64 x10_2 ∧ Aside0 (spec_l18Move.l0 kq x2_2 x3_2 x10_2 l0 l1 = some (r1, r2)) ∧ Aside0 (kq ≤ kj5) ∧ Aside0 (Below w.heap.size w w'))
   case atStart => exact ⟨(x2_5), (a3), (Int.tmod ((rd_T31 l1 0).f0) 4), (by first | rfl | (simp; done) | (simp [*]; done) | (simp [i64_w, i32_w]; done)), (by first | rfl | (simp; done) | (simp [*]; done) | (simp [i64_w, i32_w]; done)), (by first | rfl | (simp; done) | (simp [*]; done) | (simp [i64_w, i32_w]; done)), H', ⟨Nat.le_refl _⟩, ⟨by repeat (first | (with_reducible first | exact HB.out | apply below_alloc | apply pw_below_drewN | apply below_drew1) | exact HB.out)⟩⟩
   case round =>
    clear H'
    try clear p1
    try clear q1
    try clear hx1
    try clear qi1
    try clear p2
    try clear c5
    try clear c5b0
    try clear c5b1
    try clear p6
    try clear c7
    try clear c7b0
    try clear c8
    try clear c8b0
    try clear c8b1
    try clear hx179_0
    try clear hx179_1
    try clear hx179_2
    try clear hx180_0
    try clear hx180_1
    try clear hx180_2
    try clear p1
    try clear p179
    try clear p180
    try clear p2
    try clear p6
    try clear q1
    try clear q179
    try clear q180
    obtain ⟨x2_2, x3_2, x10_2, rfl, rfl, rfl, HA, HK2, HB⟩ := hrel
    cases gk with
    | zero => exact absurd HA.out (by simp [spec_l18Move.l0])
    | succ k2 =>
     have H := HA.out
     clear HA
     simp only [spec_l18Move.l0] at H
     by_cases c9 : x10_2 > 0
     · rw [if_pos c9] at H
       have c9b0 : decide (0 < x10_2) = true := decide_eq_true c9
       clear c9
       have H' := mkA H
       clear H
       go_wp2
       go_roundg k2
       case measure => have := HJ5.out; have := HK2.out; omega
       case rel => exact ⟨(wrap64 ((wrap64 (-x3_2)) - 1)), (x2_2), (wrap64 (x10_2 - 1)), (by first | rfl | (simp; done) | (simp [*]; done) | (simp [i64_w, i32_w]; done)), (by first | rfl | (simp; done) | (simp [*]; done) | (simp [i64_w, i32_w]; done)), (by first | rfl | (simp; done) | (simp [*]; done) | (simp [i64_w, i32_w]; done)), H', ⟨by have := HJ5.out; have := HK2.out; omega⟩, ⟨by repeat (first | (with_reducible first | exact HB.out | apply below_alloc | apply pw_below_drewN | apply below_drew1) | exact HB.out)⟩⟩
     · rw [if_neg c9] at H
       have c9b0 : decide (0 < x10_2) = false := decide_eq_false c9
       clear c9
       by_cases c10 : 0 < (l1.length : Int)
       rotate_left
       · rw [if_neg c10] at H
         exact absurd H (by simp)
       rw [if_pos c10] at H
       have c10b0 : decide (0 < (l1.length : Int)) = true := decide_eq_true c10
       have c10b1 : decide (0 < l1.length) = true := decide_eq_true (by omega)
       clear c10
       by_cases c11 : 0 < (l0.length : Int)
       rotate_left
       · rw [if_neg c11] at H
         exact absurd H (by simp)
       rw [if_pos c11] at H
       have c11b0 : decide (0 < (l0.length : Int)) = true := decide_eq_true c11
       have c11b1 : decide (0 < l0.length) = true := decide_eq_true (by omega)
       clear c11
       replace H := Option.bind_eq_some_iff.mp H
       obtain ⟨t183, A120, H⟩ := H
       replace H : ((spec_l18Mod.f (wrap64 (x3_2 + ((rd_T31 l1 0).f2))) ((rd_T29 l0 0).f1)).bind fun t186 => (some (t183, t186))) = some (r1, r2) := H
       have A12 := mkA A120
       clear A120
       replace H := Option.bind_eq_some_iff.mp H
       obtain ⟨t186, A130, H⟩ := H
       replace H : (some (t183, t186)) = some (r1, r2) := H
       have A13 := mkA A130
       clear A130
       simp only [Option.some.injEq, Prod.mk.injEq] at H
       obtain ⟨rfl, rfl⟩ := H
       try go_wp2
       have n0_ := mkA (below_drew1 HB.out)
       clear HB
       have HB := n0_
       clear n0_
       have p181 : 0 ≤ (0 : Int) := (by omega)
       have q181 : 0 < (l1.length : Int) := dt_
       obtain ⟨ad181, e181, hx181_0, hx181_1, hx181_2⟩ := at0_T31 HR1.out q181
       have hw181_2 := hx181_2
       have hw181_1 := hx181_1
       have hw181_0 := hx181_0
       obtain rfl : ad179 = ad181 := (by injection e181)
       have qi181 : (0 < l1.length) = True := eq_true (by omega)
       replace hx181_0 := bc_ HB.out hx181_0
       replace hx181_1 := bc_ HB.out hx181_1
       replace hx181_2 := bc_ HB.out hx181_2
       replace p181 := eq_true p181
       replace q181 := eq_true q181
       have p182 : 0 ≤ (0 : Int) := (by omega)
       have q182 : 0 < (l0.length : Int) := dt_
       obtain ⟨ad182, A182_2, c182_2, e182, hx182_0, hx182_1, hx182_2, hl182_2, hi182_2⟩ := at0_T29 HR0.out q182
       have hw182_2 := hx182_2
       have hw182_1 := hx182_1
       have hw182_0 := hx182_0
       cases e182
       have qi182 : (0 < l0.length) = True := eq_true (by omega)
       replace hx182_0 := bc_ HB.out hx182_0
       replace hx182_1 := bc_ HB.out hx182_1
       replace hx182_2 := bc_ HB.out hx182_2
       have HR182_2 := mkA hi182_2
       have HC182_2 := mkA hl182_2
       clear hi182_2 hl182_2
       replace p182 := eq_true p182
       replace q182 := eq_true q182
       have p184 : 0 ≤ (0 : Int) := (by omega)
       have q184 : 0 < (l1.length : Int) := dt_
       obtain ⟨ad184, e184, hx184_0, hx184_1, hx184_2⟩ := at0_T31 HR1.out q184
       have hw184_2 := hx184_2
       have hw184_1 := hx184_1
       have hw184_0 := hx184_0
       obtain rfl : ad179 = ad184 := (by injection e184)
       have qi184 : (0 < l1.length) = True := eq_true (by omega)
       replace hx184_0 := bc_ HB.out hx184_0
       replace hx184_1 := bc_ HB.out hx184_1
       replace hx184_2 := bc_ HB.out hx184_2
       replace p184 := eq_true p184
       replace q184 := eq_true q184
       have p185 : 0 ≤ (0 : Int) := (by omega)
       have q185 : 0 < (l0.length : Int) := dt_
       obtain ⟨ad185, A185_2, c185_2, e185, hx185_0, hx185_1, hx185_2, hl185_2, hi185_2⟩ := at0_T29 HR0.out q185
       have hw185_2 := hx185_2
       have hw185_1 := hx185_1
       have hw185_0 := hx185_0
       obtain rfl : ad182 = ad185 := (by injection e185)
       have qi185 : (0 < l0.length) = True := eq_true (by omega)
       replace hx185_0 := bc_ HB.out hx185_0
       replace hx185_1 := bc_ HB.out hx185_1
       replace hx185_2 := bc_ HB.out hx185_2
       have HR185_2 := mkA hi185_2
       have HC185_2 := mkA hl185_2
       clear hi185_2 hl185_2
       replace p185 := eq_true p185
       replace q185 := eq_true q185
       have ea_ := Option.some.inj (hx182_2.symm.trans hx185_2)
       injection ea_ with ea_ en_ ec_
       subst ea_
       subst ec_
       clear en_
       refine start_ (n := 24) (S := fun w' => w'.cell? ad179 = some (.int .i64 ((rd_T31 l1 0).f0)) ∧ w'.cell? ⟨ad179.block, ad179.off + 1, none⟩ = some (.int .i64 ((rd_T31 l1 0).f1)) ∧ w'.cell? ⟨ad179.block, ad179.off + 2, none⟩ = some (.int .i64 ((rd_T31 l1 0).f2)) ∧ w'.cell? ad182 = some (.int .i64 ((rd_T29 l0 0).f0)) ∧ w'.cell? ⟨ad182.block, ad182.off + 1, none⟩ = some (.int .i64 ((rd_T29 l0 0).f1)) ∧ w'.cell? ⟨ad182.block, ad182.off + 2, none⟩ = some (.slice A182_2 ((rd_T29 l0 0).f2).length c182_2) ∧ w'.cell? ad179 = some (.int .i64 ((rd_T31 l1 0).f0)) ∧ w'.cell? ⟨ad179.block, ad179.off + 1, none⟩ = some (.int .i64 ((rd_T31 l1 0).f1)) ∧ w'.cell? ⟨ad179.block, ad179.off + 2, none⟩ = some (.int .i64 ((rd_T31 l1 0).f2)) ∧ w'.cell? ad182 = some (.int .i64 ((rd_T29 l0 0).f0)) ∧ w'.cell? ⟨ad182.block, ad182.off + 1, none⟩ = some (.int .i64 ((rd_T29 l0 0).f1)) ∧ w'.cell? ⟨ad182.block, ad182.off + 2, none⟩ = some (.slice A182_2 ((rd_T29 l0 0).f2).length c182_2)) (ds := []) spec_l18Move.d0 (by kernel_rfl) rfl rfl ⟨(bc_ HB.out hw181_0 :), (bc_ HB.out hw181_1 :), (bc_ HB.out hw181_2 :), (bc_ HB.out hw182_0 :), (bc_ HB.out hw182_1 :), (bc_ HB.out hw182_2 :), (bc_ HB.out hw184_0 :), (bc_ HB.out hw184_1 :), (bc_ HB.out hw184_2 :), (bc_ HB.out hw185_0 :), (bc_ HB.out hw185_1 :), (bc_ HB.out hw185_2 :)⟩ (fun hHeld => ?_); refine with_tabW spec_l18Move.tab9 spec_l18Move.bits9 (fun HT_ HW_ => ?_)
       generalize wr.drew = w14 at HB HR182_2 HR185_2 hx181_0 hx181_1 hx181_2 hx182_0 hx182_1 hx182_2 hx184_0 hx184_1 hx184_2 hx185_0 hx185_1 hx185_2 hHeld ⊢
       refine p1_ HT_.out 0 34 spec_l18Move.d1 ?_
       refine p1_ HT_.out 1 35 spec_l18Move.d2 ?_
       refine p1_ HT_.out 2 36 spec_l18Move.d3 ?_
       refine p1_ HT_.out 3 37 spec_l18Move.d4 ?_
       refine p1_ HT_.out 6 40 spec_l18Move.d5 ?_
       refine p1_ HT_.out 7 41 spec_l18Move.d6 ?_
       refine p1_ HT_.out 8 42 spec_l18Move.d7 ?_
       refine p1_ HT_.out 11 45 spec_l18Move.d8 ?_
       refine p1_ HT_.out 12 46 spec_l18Move.d9 ?_
       refine p1_ HT_.out 13 47 spec_l18Move.d10 ?_
       refine p1_ HT_.out 14 48 spec_l18Move.d11 ?_
       refine p1_ HT_.out 17 51 spec_l18Move.d12 ?_
       refine p1_ HT_.out 18 52 spec_l18Move.d13 ?_
       refine p1_ HT_.out 19 53 spec_l18Move.d14 ?_
       refine take_ (i := 4) (N := some 38) (v := ?_) (a' := ?_) spec_l18Move.d15 rfl rfl (take_ofW HT_.out HW_.out (by kernel_rfl)) (fun _ _ _ h => h) (Or.inl ⟨by rfl, ?_⟩) hHeld ?_ ?_
       rotate_left
       · rintro w' ⟨s0, s1, s2, s3, s4, s5, s6, s7, s8, s9, s10, s11⟩
         go_simp
         with_reducible rfl
       rotate_left
       · simp only [Act.put, sA, sB, sC, i64_w, i32_w]
         rfl
       refine p1_ HT_.out 5 39 spec_l18Move.d16 ?_
       refine take_ (i := 9) (N := some 43) (v := ?_) (a' := ?_) spec_l18Move.d17 rfl rfl (take_ofW HT_.out HW_.out (by kernel_rfl)) (fun _ _ _ h => h) (Or.inl ⟨by rfl, ?_⟩) hHeld ?_ ?_
       rotate_left
       · rintro w' ⟨s0, s1, s2, s3, s4, s5, s6, s7, s8, s9, s10, s11⟩
         go_simp
         with_reducible rfl
       rotate_left
       · simp only [Act.put, sA, sB, sC, i64_w, i32_w]
         rfl
       refine take_ (i := 15) (N := some 49) (v := ?_) (a' := ?_) spec_l18Move.d18 rfl rfl (take_ofW HT_.out HW_.out (by kernel_rfl)) (fun _ _ _ h => h) (Or.inl ⟨by rfl, ?_⟩) hHeld ?_ ?_
       rotate_left
       · rintro w' ⟨s0, s1, s2, s3, s4, s5, s6, s7, s8, s9, s10, s11⟩
         go_simp
         with_reducible rfl
       rotate_left
       · simp only [Act.put, sA, sB, sC, i64_w, i32_w]
         rfl
       refine p1_ HT_.out 16 50 spec_l18Move.d19 ?_
       refine take_ (i := 20) (N := some 54) (v := ?_) (a' := ?_) spec_l18Move.d20 rfl rfl (take_ofW HT_.out HW_.out (by kernel_rfl)) (fun _ _ _ h => h) (Or.inl ⟨by rfl, ?_⟩) hHeld ?_ ?_
       rotate_left
       · rintro w' ⟨s0, s1, s2, s3, s4, s5, s6, s7, s8, s9, s10, s11⟩
         go_simp
         with_reducible rfl
       rotate_left
       · simp only [Act.put, sA, sB, sC, i64_w, i32_w]
         rfl
       refine one_ (i := 10) (N := some 44) spec_l18Move.d21 rfl rfl (one_of HT_.out (by kernel_rfl)) (by decide) (fun K hK => ?_)
       refine goes_ Try.func67 (by kernel_rfl) rfl #[.int .i64 (wrap64 (x2_2 + ((rd_T31 l1 0).f1))), .int .i64 ((rd_T29 l0 0).f0)] (by rfl) rfl rfl (by (try simp only [List.map_toArray, List.map_cons, List.map_nil]); first | done | rfl | (simp only [List.length_drop, List.length_take]; rfl)) ?_
       with_reducible refine (spec_l18Mod.calls (wrap64 (x2_2 + ((rd_T31 l1 0).f1))) ((rd_T29 l0 0).f0) t183 _ A12.out).mono ?_
       rintro e w' ⟨rfl, ⟨nd, rfl⟩⟩
       refine ⟨_, rfl, ?_⟩
       refine hK.out _ _ ⟨(bc_ HB.out hw181_0 :), (bc_ HB.out hw181_1 :), (bc_ HB.out hw181_2 :), (bc_ HB.out hw182_0 :), (bc_ HB.out hw182_1 :), (bc_ HB.out hw182_2 :), (bc_ HB.out hw184_0 :), (bc_ HB.out hw184_1 :), (bc_ HB.out hw184_2 :), (bc_ HB.out hw185_0 :), (bc_ HB.out hw185_1 :), (bc_ HB.out hw185_2 :)⟩ (fun hHeld => ?_)
       clear hK K
       refine norm_ (a' := ?_) ?_ ?_
       rotate_left
       · show Act.put _ (some 44) _ = _
         simp only [Act.put, sA, sB, sC, i64_w, i32_w]
         rfl
       refine one_ (i := 21) (N := some 55) spec_l18Move.d22 rfl rfl (one_of HT_.out (by kernel_rfl)) (by decide) (fun K hK => ?_)
       refine goes_ Try.func67 (by kernel_rfl) rfl #[.int .i64 (wrap64 (x3_2 + ((rd_T31 l1 0).f2))), .int .i64 ((rd_T29 l0 0).f1)] (by rfl) rfl rfl (by (try simp only [List.map_toArray, List.map_cons, List.map_nil]); first | done | rfl | (simp only [List.length_drop, List.length_take]; rfl)) ?_
       with_reducible refine (spec_l18Mod.calls (wrap64 (x3_2 + ((rd_T31 l1 0).f2))) ((rd_T29 l0 0).f1) t186 _ A13.out).mono ?_
       rintro e w' ⟨rfl, ⟨nd, rfl⟩⟩
       refine ⟨_, rfl, ?_⟩
       refine hK.out _ _ ⟨(bc_ HB.out hw181_0 :), (bc_ HB.out hw181_1 :), (bc_ HB.out hw181_2 :), (bc_ HB.out hw182_0 :), (bc_ HB.out hw182_1 :), (bc_ HB.out hw182_2 :), (bc_ HB.out hw184_0 :), (bc_ HB.out hw184_1 :), (bc_ HB.out hw184_2 :), (bc_ HB.out hw185_0 :), (bc_ HB.out hw185_1 :), (bc_ HB.out hw185_2 :)⟩ (fun hHeld => ?_)
       clear hK K
       refine norm_ (a' := ?_) ?_ ?_
       rotate_left
       · show Act.put _ (some 55) _ = _
         simp only [Act.put, sA, sB, sC, i64_w, i32_w]
         rfl
       refine p1_ HT_.out 22 8 spec_l18Move.d23 ?_
       refine p1_ HT_.out 23 9 spec_l18Move.d24 ?_
       refine done_ (done_of HT_.out (by kernel_rfl)) ?_
       try go_wp2
       go_ret2
       exact ⟨by first | rfl | (simp [errW_none, errW_some] <;> rfl) | (simp [*, errW_none, errW_some] <;> rfl), by repeat (first | (with_reducible first | exact HB.out | apply below_alloc | apply pw_below_drewN | apply below_drew1) | exact HB.out)⟩
end Go.Proofs.Ytnidibnhojedoaa.GFnExactSymmetriesOf
