-- Written by the session's own program (gen.py) out of the translation's print. Lean checks it.
import Derived.Test.YtakagkflgkoiiaaQ
import Derived.Test.YtakagkflgkoiiaaGFnExactFirstUncoveredx0
import Derived.Test.YtakagkflgkoiiaaGFnExactFirstUncoveredx4
namespace Go.Proofs.Ytakagkflgkoiiaa.GFnExactFirstUncovered
open Go.RowKit Go.Proofs.YtakagkflgkoiiaaW.PrintWords Go.Proofs.YtakagkflgkoiiaaW.PrintLast Go.Proofs.YtakagkflgkoiiaaW.PrintMore
open List renaming setIfInBounds_toArray → sA, set_cons_zero → sB, set_cons_succ → sC
open Go.Proofs.YtakagkflgkoiiaaW.PrintWords.Aside0 renaming mk → mkA
open Go.Proofs.YtakagkflgkoiiaaX (dt_ bc_ p0_ p1_ bl_ cb_ bs0_ bs1_ bs2_ bs3_ bs4_ bs5_ bs6_ bs7_ bs8_ bs9_ bs10_ bs11_ bs12_)
open Go.Proofs.YtakagkflgkoiiaaQ
attribute [local go_sem] max2_int min2_int max_two min_two max_three min_three max_four min_four 
set_option linter.unusedVariables false
set_option linter.unusedSimpArgs false

/-! ### spec_l19Ok: function 55 -/
mutual
def spec_l19Ok.j0 : Nat → Bool → List (S27) → Option (Bool)
  | 0, _, _ => none
  | k + 1, x34, x960 => if x34 = true then (some false) else (spec_l19Ok.l0 k 0 x960)
def spec_l19Ok.l0 : Nat → Int → List (S27) → Option (Bool)
  | 0, _, _ => none
  | k + 1, x3, x960 => if 0 < (x960.length : Int) then (if x3 < (((rd_T27 x960 0).f2).length : Int) then (if 0 ≤ x3 then ((spec_l00In.f (rd ((rd_T27 x960 0).f2) x3) 0 1).bind fun t171 => (if t171 = true then (spec_l19Ok.l0 k (wrap64 (x3 + 1)) x960) else (some false))) else (none)) else (some true)) else (none)
end
def spec_l19Ok.f (k : Nat) (l0 : List (S27)) : Option (Bool) := if 0 < (l0.length : Int) then ((spec_l00In.f ((rd_T27 l0 0).f0) 1 12).bind fun t162 => (if t162 = true then ((spec_l00In.f ((rd_T27 l0 0).f1) 1 12).bind fun t164 => (if t164 = true then (spec_l19Ok.j0 k ((((rd_T27 l0 0).f2).length : Int) != (wrap64 (((rd_T27 l0 0).f0) * ((rd_T27 l0 0).f1)))) l0) else (spec_l19Ok.j0 k true l0))) else (spec_l19Ok.j0 k true l0))) else (none)
def spec_l19Ok.T1 : Bool × List (List Nat × List Nat) := (true, [([], []), ([0], [0]), ([1], [1]), ([2], [2]), ([3], [3]), ([4], [4]), ([5, 4], [5]), ([6], [6]), ([7, 6], [6, 7]), ([8, 6], [6, 8]), ([9, 6], [6, 9]), ([10, 6, 6], [6, 10]), ([11, 6], [6, 11]), ([6, 12], [6, 12]), ([13, 11], [13]), ([14], [14]), ([15, 14], [14, 15]), ([16, 14], [14, 16]), ([17, 14], [14, 17]), ([18, 14], [14, 18]), ([14], [14]), ([20, 14], [14, 20]), ([21, 14], [14, 21]), ([22, 14], [14, 22]), ([14], [14]), ([24, 14], [14, 24]), ([25, 14], [14, 25]), ([26, 14], [14, 26]), ([23, 27, 14], [14, 23, 27]), ([19, 28, 14], [14, 19, 28]), ([14, 29], [14, 29])])
def spec_l19Ok.B1 : List Nat := [0, 1, 3, 7, 15, 31, 63, 127, 255, 511, 1023, 2047, 4095, 8191, 16383, 32767, 65535, 131071, 262143, 524287, 32767, 1081343, 3178495, 7372799, 32767, 16809983, 50364415, 117473279, 267419647, 536870911, 1073741823]
theorem spec_l19Ok.tab1 : rtab .any (opsOf Try.f55 1) = spec_l19Ok.T1 := by kernel_rfl
theorem spec_l19Ok.bits1 : waitsOk spec_l19Ok.T1.2 spec_l19Ok.B1 = true := by kernel_rfl
set_option maxHeartbeats 8000000 in
set_option maxRecDepth 100000 in
theorem spec_l19Ok.calls (k : Nat) (A0 : Option Addr) (l0 : List (S27)) (r : Bool) (w : World) (hr0 : Kd.C k27 w A0 l0.length l0) (h : spec_l19Ok.f k l0 = some r) :
 Calls Try.prog 55 #[.pointer A0] w fun e w' => e = .returned (.bool r) ∧ Below w.heap.size w w' := by
 have HR0 := mkA hr0
 clear hr0
 have HB := mkA (Below.refl w.heap.size w)
 unfold spec_l19Ok.f at h
 have H := h
 clear h
 have HC2 := mkA H
 clear H
 go_enter Try.func55, Try.ntmps55
 go_upto_region 1 with (fail)
 go_cut [34] (fun v34 wc => ∃ (kq : Nat) (x34_1 : Bool), v34 = .bool x34_1 ∧ Aside0 (spec_l19Ok.j0 kq x34_1 l0 = some r) ∧ Aside0 (kq ≤ k) ∧ Aside0 (Below w.heap.size w wc))
 case first =>
  have H := HC2.out
  clear HC2
  revert H
  refine ng_ fun c3 => ?_
  intro H
  have c3b0 := decide_eq_true c3
  have c3b1 : decide (0 < l0.length) = true := decide_eq_true (by omega)
  clear c3
  (first | rw [c3b0] | (simp only [i64_w, i32_w]; rw [c3b0]) | skip)
  revert H
  refine ob_ fun t162 A4 => ?_
  intro H
  by_cases c5 : t162 = true
  rotate_left
  · replace c5 := Bool.eq_false_iff.mpr c5
    subst c5
    rw [if_neg Bool.false_ne_true] at H
    have H' := mkA H
    clear H
    try go_wp2
    replace HB := mkA (below_drew1 HB.out)
    obtain ⟨ad161, A161_2, c161_2, e161, hw161_0, hw161_1, hw161_2, hl161_2, hi161_2⟩ := at0_T27 HR0.out dt_
    cases e161
    have HR161_2 := mkA hi161_2
    have HC161_2 := mkA hl161_2
    clear hi161_2 hl161_2
    obtain ⟨hx161_0, hx161_1, hx161_2⟩ := b3_ HB.out hw161_0 hw161_1 hw161_2
    have p161 : (0 ≤ (0 : Int)) = True := eq_true (by omega)
    have q161 : (0 < (l0.length : Int)) = True := eq_true dt_
    have qi161 := qn_ q161
    refine st_ 31 (fun w' => C_ hw161_0 w' ∧ C_ hw161_1 w' ∧ C_ hw161_2 w') [] spec_l19Ok.tab1 spec_l19Ok.bits1 sp_ fun hHeld HT_ HW_ => ?_
    generalize w.drew = w10 at HB HR161_2 hx161_0 hx161_1 hx161_2 hHeld ⊢
    refine a1_ 0 4 (h := a1_ 1 5 (h := a1_ 2 6 (h := tk_ 3 7 (h := ?_))))
    refine on_ 4 8 fun K hK => ?_
    refine go_ Try.func60 #[.int .i64 ((rd_T27 l0 0).f0), .int .i64 1, .int .i64 12] ?_
    with_reducible refine (spec_l00In.calls ((rd_T27 l0 0).f0) 1 12 false _ A4.out).mono ?_
    rintro e w' ⟨rfl, ⟨nd, rfl⟩⟩
    refine ⟨_, rfl, ?_⟩
    refine hK.out _ _ sp_ fun hHeld => ?_
    clear hK K
    refine nm_ 8 ?_
    refine a1_ 5 9 (h := a1_ 6 10 (h := a0_ 7 11 (h := a0_ 8 12 (h := a0_ 9 13 (h := a0_ 10 14 (h := a0_ 11 15 (h := a0_ 12 16 (h := a1_ 13 17 (h := a1_ 14 18 (h := a0_ 15 19 (h := a0_ 16 20 (h := a0_ 17 21 (h := a0_ 18 22 (h := a0_ 19 23 (h := a0_ 20 24 (h := a0_ 21 25 (h := a0_ 22 26 (h := a0_ 23 27 (h := a0_ 24 28 (h := a0_ 25 29 (h := a0_ 26 30 (h := a0_ 27 31 (h := a0_ 28 32 (h := a0_ 29 33 (h := a1_ 30 34 (h := ?_))))))))))))))))))))))))))
    refine dn_ ?_
    try go_wp2
    go_meet
    case rel => exact ⟨_, (true), rf_, H', ⟨by first | omega | exact Nat.le_refl _⟩, ⟨bs0_ HB.out⟩⟩
  subst c5
  rw [if_pos rfl] at H
  revert H
  refine ob_ fun t164 A6 => ?_
  intro H
  by_cases c7 : t164 = true
  rotate_left
  · replace c7 := Bool.eq_false_iff.mpr c7
    subst c7
    rw [if_neg Bool.false_ne_true] at H
    have H' := mkA H
    clear H
    try go_wp2
    replace HB := mkA (below_drew1 HB.out)
    obtain ⟨ad161, A161_2, c161_2, e161, hw161_0, hw161_1, hw161_2, hl161_2, hi161_2⟩ := at0_T27 HR0.out dt_
    cases e161
    have HR161_2 := mkA hi161_2
    have HC161_2 := mkA hl161_2
    clear hi161_2 hl161_2
    obtain ⟨hx161_0, hx161_1, hx161_2⟩ := b3_ HB.out hw161_0 hw161_1 hw161_2
    have p161 : (0 ≤ (0 : Int)) = True := eq_true (by omega)
    have q161 : (0 < (l0.length : Int)) = True := eq_true dt_
    have qi161 := qn_ q161
    obtain ⟨ad163, A163_2, c163_2, e163, hw163_0, hw163_1, hw163_2, hl163_2, hi163_2⟩ := at0_T27 HR0.out dt_
    obtain rfl : ad161 = ad163 := (by injection e163)
    have HR163_2 := mkA hi163_2
    have HC163_2 := mkA hl163_2
    clear hi163_2 hl163_2
    obtain ⟨hx163_0, hx163_1, hx163_2⟩ := b3_ HB.out hw163_0 hw163_1 hw163_2
    have p163 : (0 ≤ (0 : Int)) = True := eq_true (by omega)
    have q163 : (0 < (l0.length : Int)) = True := eq_true dt_
    have qi163 := qn_ q163
    have ea_ := Option.some.inj (hx161_2.symm.trans hx163_2)
    injection ea_ with ea_ en_ ec_
    subst ea_
    subst ec_
    clear en_
    refine st_ 31 (fun w' => C_ hw161_0 w' ∧ C_ hw161_1 w' ∧ C_ hw161_2 w' ∧ C_ hw163_0 w' ∧ C_ hw163_1 w' ∧ C_ hw163_2 w') [] spec_l19Ok.tab1 spec_l19Ok.bits1 sp_ fun hHeld HT_ HW_ => ?_
    generalize w.drew = w9 at HB HR161_2 HR163_2 hx161_0 hx161_1 hx161_2 hx163_0 hx163_1 hx163_2 hHeld ⊢
    refine a1_ 0 4 (h := a1_ 1 5 (h := a1_ 2 6 (h := tk_ 3 7 (h := ?_))))
    refine on_ 4 8 fun K hK => ?_
    refine go_ Try.func60 #[.int .i64 ((rd_T27 l0 0).f0), .int .i64 1, .int .i64 12] ?_
    with_reducible refine (spec_l00In.calls ((rd_T27 l0 0).f0) 1 12 true _ A4.out).mono ?_
    rintro e w' ⟨rfl, ⟨nd, rfl⟩⟩
    refine ⟨_, rfl, ?_⟩
    refine hK.out _ _ sp_ fun hHeld => ?_
    clear hK K
    refine nm_ 8 ?_
    refine a1_ 5 9 (h := a1_ 6 10 (h := a1_ 7 11 (h := a1_ 8 12 (h := a1_ 9 13 (h := tk_ 10 14 (h := ?_))))))
    refine on_ 11 15 fun K hK => ?_
    refine go_ Try.func60 #[.int .i64 ((rd_T27 l0 0).f1), .int .i64 1, .int .i64 12] ?_
    with_reducible refine (spec_l00In.calls ((rd_T27 l0 0).f1) 1 12 false _ A6.out).mono ?_
    rintro e w' ⟨rfl, ⟨nd, rfl⟩⟩
    refine ⟨_, rfl, ?_⟩
    refine hK.out _ _ sp_ fun hHeld => ?_
    clear hK K
    refine nm_ 15 ?_
    refine a1_ 12 16 (h := a1_ 13 17 (h := a1_ 14 18 (h := a0_ 15 19 (h := a0_ 16 20 (h := a0_ 17 21 (h := a0_ 18 22 (h := a0_ 19 23 (h := a0_ 20 24 (h := a0_ 21 25 (h := a0_ 22 26 (h := a0_ 23 27 (h := a0_ 24 28 (h := a0_ 25 29 (h := a0_ 26 30 (h := a0_ 27 31 (h := a0_ 28 32 (h := a0_ 29 33 (h := a1_ 30 34 (h := ?_)))))))))))))))))))
    refine dn_ ?_
    try go_wp2
    go_meet
    case rel => exact ⟨_, (true), rf_, H', ⟨by first | omega | exact Nat.le_refl _⟩, ⟨bs0_ HB.out⟩⟩
  subst c7
  rw [if_pos rfl] at H
  have H' := mkA H
  clear H
  try go_wp2
  replace HB := mkA (below_drew1 HB.out)
  obtain ⟨ad161, A161_2, c161_2, e161, hw161_0, hw161_1, hw161_2, hl161_2, hi161_2⟩ := at0_T27 HR0.out dt_
  cases e161
  have HR161_2 := mkA hi161_2
  have HC161_2 := mkA hl161_2
  clear hi161_2 hl161_2
  obtain ⟨hx161_0, hx161_1, hx161_2⟩ := b3_ HB.out hw161_0 hw161_1 hw161_2
  have p161 : (0 ≤ (0 : Int)) = True := eq_true (by omega)
  have q161 : (0 < (l0.length : Int)) = True := eq_true dt_
  have qi161 := qn_ q161
  obtain ⟨ad163, A163_2, c163_2, e163, hw163_0, hw163_1, hw163_2, hl163_2, hi163_2⟩ := at0_T27 HR0.out dt_
  obtain rfl : ad161 = ad163 := (by injection e163)
  have HR163_2 := mkA hi163_2
  have HC163_2 := mkA hl163_2
  clear hi163_2 hl163_2
  obtain ⟨hx163_0, hx163_1, hx163_2⟩ := b3_ HB.out hw163_0 hw163_1 hw163_2
  have p163 : (0 ≤ (0 : Int)) = True := eq_true (by omega)
  have q163 : (0 < (l0.length : Int)) = True := eq_true dt_
  have qi163 := qn_ q163
  have ea_ := Option.some.inj (hx161_2.symm.trans hx163_2)
  injection ea_ with ea_ en_ ec_
  subst ea_
  subst ec_
  clear en_
  obtain ⟨ad165, A165_2, c165_2, e165, hw165_0, hw165_1, hw165_2, hl165_2, hi165_2⟩ := at0_T27 HR0.out dt_
  obtain rfl : ad161 = ad165 := (by injection e165)
  have HR165_2 := mkA hi165_2
  have HC165_2 := mkA hl165_2
  clear hi165_2 hl165_2
  obtain ⟨hx165_0, hx165_1, hx165_2⟩ := b3_ HB.out hw165_0 hw165_1 hw165_2
  have p165 : (0 ≤ (0 : Int)) = True := eq_true (by omega)
  have q165 : (0 < (l0.length : Int)) = True := eq_true dt_
  have qi165 := qn_ q165
  have ea_ := Option.some.inj (hx161_2.symm.trans hx165_2)
  injection ea_ with ea_ en_ ec_
  subst ea_
  subst ec_
  clear en_
  obtain ⟨ad166, A166_2, c166_2, e166, hw166_0, hw166_1, hw166_2, hl166_2, hi166_2⟩ := at0_T27 HR0.out dt_
  obtain rfl : ad161 = ad166 := (by injection e166)
  have HR166_2 := mkA hi166_2
  have HC166_2 := mkA hl166_2
  clear hi166_2 hl166_2
  obtain ⟨hx166_0, hx166_1, hx166_2⟩ := b3_ HB.out hw166_0 hw166_1 hw166_2
  have p166 : (0 ≤ (0 : Int)) = True := eq_true (by omega)
  have q166 : (0 < (l0.length : Int)) = True := eq_true dt_
  have qi166 := qn_ q166
  have ea_ := Option.some.inj (hx161_2.symm.trans hx166_2)
  injection ea_ with ea_ en_ ec_
  subst ea_
  subst ec_
  clear en_
  obtain ⟨ad167, A167_2, c167_2, e167, hw167_0, hw167_1, hw167_2, hl167_2, hi167_2⟩ := at0_T27 HR0.out dt_
  obtain rfl : ad161 = ad167 := (by injection e167)
  have HR167_2 := mkA hi167_2
  have HC167_2 := mkA hl167_2
  clear hi167_2 hl167_2
  obtain ⟨hx167_0, hx167_1, hx167_2⟩ := b3_ HB.out hw167_0 hw167_1 hw167_2
  have p167 : (0 ≤ (0 : Int)) = True := eq_true (by omega)
  have q167 : (0 < (l0.length : Int)) = True := eq_true dt_
  have qi167 := qn_ q167
  have ea_ := Option.some.inj (hx161_2.symm.trans hx167_2)
  injection ea_ with ea_ en_ ec_
  subst ea_
  subst ec_
  clear en_
  refine st_ 31 (fun w' => C_ hw161_0 w' ∧ C_ hw161_1 w' ∧ C_ hw161_2 w' ∧ C_ hw163_0 w' ∧ C_ hw163_1 w' ∧ C_ hw163_2 w' ∧ C_ hw165_0 w' ∧ C_ hw165_1 w' ∧ C_ hw165_2 w' ∧ C_ hw166_0 w' ∧ C_ hw166_1 w' ∧ C_ hw166_2 w' ∧ C_ hw167_0 w' ∧ C_ hw167_1 w' ∧ C_ hw167_2 w') [] spec_l19Ok.tab1 spec_l19Ok.bits1 sp_ fun hHeld HT_ HW_ => ?_
  generalize w.drew = w8 at HB HR161_2 HR163_2 HR165_2 HR166_2 HR167_2 hx161_0 hx161_1 hx161_2 hx163_0 hx163_1 hx163_2 hx165_0 hx165_1 hx165_2 hx166_0 hx166_1 hx166_2 hx167_0 hx167_1 hx167_2 hHeld ⊢
  refine a1_ 0 4 (h := a1_ 1 5 (h := a1_ 2 6 (h := tk_ 3 7 (h := ?_))))
  refine on_ 4 8 fun K hK => ?_
  refine go_ Try.func60 #[.int .i64 ((rd_T27 l0 0).f0), .int .i64 1, .int .i64 12] ?_
  with_reducible refine (spec_l00In.calls ((rd_T27 l0 0).f0) 1 12 true _ A4.out).mono ?_
  rintro e w' ⟨rfl, ⟨nd, rfl⟩⟩
  refine ⟨_, rfl, ?_⟩
  refine hK.out _ _ sp_ fun hHeld => ?_
  clear hK K
  refine nm_ 8 ?_
  refine a1_ 5 9 (h := a1_ 6 10 (h := a1_ 7 11 (h := a1_ 8 12 (h := a1_ 9 13 (h := tk_ 10 14 (h := ?_))))))
  refine on_ 11 15 fun K hK => ?_
  refine go_ Try.func60 #[.int .i64 ((rd_T27 l0 0).f1), .int .i64 1, .int .i64 12] ?_
  with_reducible refine (spec_l00In.calls ((rd_T27 l0 0).f1) 1 12 true _ A6.out).mono ?_
  rintro e w' ⟨rfl, ⟨nd, rfl⟩⟩
  refine ⟨_, rfl, ?_⟩
  refine hK.out _ _ sp_ fun hHeld => ?_
  clear hK K
  refine nm_ 15 ?_
  refine a1_ 12 16 (h := a1_ 13 17 (h := a1_ 14 18 (h := a1_ 15 19 (h := a1_ 16 20 (h := a1_ 17 21 (h := a1_ 20 24 (h := a1_ 21 25 (h := a1_ 22 26 (h := a1_ 24 28 (h := a1_ 25 29 (h := a1_ 26 30 (h := tk_ 18 22 (h := a1_ 19 23 (h := tk_ 23 27 (h := tk_ 27 31 (h := a1_ 28 32 (h := a1_ 29 33 (h := a1_ 30 34 (h := ?_)))))))))))))))))))
  refine dn_ ?_
  try go_wp2
  go_meet
  case rel => exact ⟨_, (((((rd_T27 l0 0).f2).length : Int) != (wrap64 (((rd_T27 l0 0).f0) * ((rd_T27 l0 0).f1))))), rf_, H', ⟨by first | omega | exact Nat.le_refl _⟩, ⟨bs0_ HB.out⟩⟩
 case rest =>
  clear HC2
  try clear c3 c5 c7
  try clear hx161_0 hx161_1 hx161_2 hx163_0 hx163_1 hx163_2
  try clear p161 p163
  try clear q161 q163
  obtain ⟨kq, x34_1, rfl, HA, HJ1, HB⟩ := hcut
  cases kq with
  | zero => exact absurd HA.out (by simp [spec_l19Ok.j0])
  | succ kj1 =>
   have H := HA.out
   clear HA
   simp only [spec_l19Ok.j0] at H
   by_cases c11 : x34_1 = true
   · subst c11
     rw [if_pos rfl] at H
     obtain rfl := Option.some.inj H
     go_wp2
     go_ret
     exact ⟨re_, bs0_ HB.out⟩
   · replace c11 := Bool.eq_false_iff.mpr c11
     subst c11
     rw [if_neg Bool.false_ne_true] at H
     have H' := mkA H
     clear H
     go_wp2
     go_loopg [3] kj1 (fun kq v3 w' => ∃ (x3_2 : Int), v3 = .int .i64 x3_2 ∧ Aside0 (spec_l19Ok.l0 kq x3_2 l0 = some r) ∧ Aside0 (kq ≤ kj1) ∧ Aside0 (Below w.heap.size w w'))
     case atStart => exact ⟨(0), rf_, H', ⟨Nat.le_refl _⟩, ⟨bs0_ HB.out⟩⟩
     case round =>
      clear H'
      try clear c3 c5 c7 c11
      try clear hx161_0 hx161_1 hx161_2 hx163_0 hx163_1 hx163_2
      try clear p161 p163
      try clear q161 q163
      obtain ⟨x3_2, rfl, HA, HK2, HB⟩ := hrel
      cases gk with
      | zero => exact absurd HA.out (by simp [spec_l19Ok.l0])
      | succ k2 =>
       have H := HA.out
       clear HA
       simp only [spec_l19Ok.l0] at H
       revert H
       refine ng_ fun c12 => ?_
       intro H
       have c12b0 := decide_eq_true c12
       have c12b1 : decide (0 < l0.length) = true := decide_eq_true (by omega)
       clear c12
       by_cases c13 : x3_2 < (((rd_T27 l0 0).f2).length : Int)
       rotate_left
       · rw [if_neg c13] at H
         have c13b0 := decide_eq_false c13
         clear c13
         obtain rfl := Option.some.inj H
         obtain ⟨ad168, A168_2, c168_2, e168, hx168_0, hx168_1, hx168_2, hl168_2, hi168_2⟩ := at0_T27 HR0.out dt_
         cases e168
         have HR168_2 := mkA hi168_2
         have HC168_2 := mkA hl168_2
         clear hi168_2 hl168_2
         obtain ⟨hx168_0, hx168_1, hx168_2⟩ := b3_ HB.out hx168_0 hx168_1 hx168_2
         have p168 : (0 ≤ (0 : Int)) = True := eq_true (by omega)
         have q168 : (0 < (l0.length : Int)) = True := eq_true dt_
         have qi168 := qn_ q168
         go_wp2
         go_ret
         exact ⟨re_, bs0_ HB.out⟩
       rw [if_pos c13] at H
       have c13b0 := decide_eq_true c13
       clear c13
       revert H
       refine ng_ fun c14 => ob_ fun t171 A15 => ?_
       intro H
       have c14b0 := decide_eq_true c14
       clear c14
       by_cases c16 : t171 = true
       rotate_left
       · replace c16 := Bool.eq_false_iff.mpr c16
         subst c16
         rw [if_neg Bool.false_ne_true] at H
         obtain rfl := Option.some.inj H
         obtain ⟨ad168, A168_2, c168_2, e168, hx168_0, hx168_1, hx168_2, hl168_2, hi168_2⟩ := at0_T27 HR0.out dt_
         cases e168
         have HR168_2 := mkA hi168_2
         have HC168_2 := mkA hl168_2
         clear hi168_2 hl168_2
         obtain ⟨hx168_0, hx168_1, hx168_2⟩ := b3_ HB.out hx168_0 hx168_1 hx168_2
         have p168 : (0 ≤ (0 : Int)) = True := eq_true (by omega)
         have q168 : (0 < (l0.length : Int)) = True := eq_true dt_
         have qi168 := qn_ q168
         obtain ⟨ad169, A169_2, c169_2, e169, hx169_0, hx169_1, hx169_2, hl169_2, hi169_2⟩ := at0_T27 HR0.out dt_
         obtain rfl : ad168 = ad169 := (by injection e169)
         have HR169_2 := mkA hi169_2
         have HC169_2 := mkA hl169_2
         clear hi169_2 hl169_2
         obtain ⟨hx169_0, hx169_1, hx169_2⟩ := b3_ HB.out hx169_0 hx169_1 hx169_2
         have p169 : (0 ≤ (0 : Int)) = True := eq_true (by omega)
         have q169 : (0 < (l0.length : Int)) = True := eq_true dt_
         have qi169 := qn_ q169
         have ea_ := Option.some.inj (hx168_2.symm.trans hx169_2)
         injection ea_ with ea_ en_ ec_
         subst ea_
         subst ec_
         clear en_
         obtain ⟨ad170, e170, hx170_0⟩ := Kd.at_int HR169_2.out x3_2 dt_ dt_
         cases e170
         replace hx170_0 := bc_ HB.out hx170_0
         have p170 : (0 ≤ (x3_2 : Int)) = True := eq_true dt_
         have q170 : (x3_2 < (((rd_T27 l0 0).f2).length : Int)) = True := eq_true dt_
         go_wp2_with (first | ((with_reducible refine gk_ 60 ?_); refine gl_ (some 51) Try.func60 #[.int .i64 (rd ((rd_T27 l0 0).f2) x3_2), .int .i64 0, .int .i64 1] ?_; (with_reducible refine (spec_l00In.calls (rd ((rd_T27 l0 0).f2) x3_2) 0 1 false _ A15.out).mono ?_); rintro e w' ⟨rfl, ⟨nd, rfl⟩⟩; refine ⟨_, rfl, ?_⟩))
         go_ret
         exact ⟨re_, bs0_ HB.out⟩
       subst c16
       rw [if_pos rfl] at H
       have H' := mkA H
       clear H
       obtain ⟨ad168, A168_2, c168_2, e168, hx168_0, hx168_1, hx168_2, hl168_2, hi168_2⟩ := at0_T27 HR0.out dt_
       cases e168
       have HR168_2 := mkA hi168_2
       have HC168_2 := mkA hl168_2
       clear hi168_2 hl168_2
       obtain ⟨hx168_0, hx168_1, hx168_2⟩ := b3_ HB.out hx168_0 hx168_1 hx168_2
       have p168 : (0 ≤ (0 : Int)) = True := eq_true (by omega)
       have q168 : (0 < (l0.length : Int)) = True := eq_true dt_
       have qi168 := qn_ q168
       obtain ⟨ad169, A169_2, c169_2, e169, hx169_0, hx169_1, hx169_2, hl169_2, hi169_2⟩ := at0_T27 HR0.out dt_
       obtain rfl : ad168 = ad169 := (by injection e169)
       have HR169_2 := mkA hi169_2
       have HC169_2 := mkA hl169_2
       clear hi169_2 hl169_2
       obtain ⟨hx169_0, hx169_1, hx169_2⟩ := b3_ HB.out hx169_0 hx169_1 hx169_2
       have p169 : (0 ≤ (0 : Int)) = True := eq_true (by omega)
       have q169 : (0 < (l0.length : Int)) = True := eq_true dt_
       have qi169 := qn_ q169
       have ea_ := Option.some.inj (hx168_2.symm.trans hx169_2)
       injection ea_ with ea_ en_ ec_
       subst ea_
       subst ec_
       clear en_
       obtain ⟨ad170, e170, hx170_0⟩ := Kd.at_int HR169_2.out x3_2 dt_ dt_
       cases e170
       replace hx170_0 := bc_ HB.out hx170_0
       have p170 : (0 ≤ (x3_2 : Int)) = True := eq_true dt_
       have q170 : (x3_2 < (((rd_T27 l0 0).f2).length : Int)) = True := eq_true dt_
       go_wp2_with (first | ((with_reducible refine gk_ 60 ?_); refine gl_ (some 51) Try.func60 #[.int .i64 (rd ((rd_T27 l0 0).f2) x3_2), .int .i64 0, .int .i64 1] ?_; (with_reducible refine (spec_l00In.calls (rd ((rd_T27 l0 0).f2) x3_2) 0 1 true _ A15.out).mono ?_); rintro e w' ⟨rfl, ⟨nd, rfl⟩⟩; refine ⟨_, rfl, ?_⟩))
       go_roundg k2
       case measure => have := HJ1.out; have := HK2.out; omega
       case rel => exact ⟨(wrap64 (x3_2 + 1)), rf_, H', ⟨on2_ HJ1.out HK2.out⟩, ⟨bs0_ HB.out⟩⟩
/-! ### spec_l01Small: function 106 -/
def spec_l01Small.f (a0 : Int) : Option (Bool) := if a0 ≥ 97 then (some (decide (a0 ≤ 122))) else (some false)
set_option maxHeartbeats 8000000 in
set_option maxRecDepth 100000 in
theorem spec_l01Small.calls (a0 : Int) (r : Bool) (w : World) (h : spec_l01Small.f a0 = some r) :
    Calls Try.prog 106 #[.int .u8 a0] w fun e w' => e = .returned (.bool r) ∧ Drawn0 w w' := by
 unfold spec_l01Small.f at h
 have H := h
 clear h
 by_cases c2 : a0 ≥ 97
 · rw [if_pos c2] at H
   have c2b0 := decide_eq_true c2
   clear c2
   obtain rfl := Option.some.inj H
   go_enter Try.func106, Try.ntmps106
   go_wp2
   go_ret
   exact ⟨by first | rfl | (simp; done) | (simp [*]; done) | (simp [i64_w, i32_w]; done), by repeat (first | exact Drawn0.refl _ | apply Drawn0.step)⟩
 · rw [if_neg c2] at H
   have c2b0 := decide_eq_false c2
   clear c2
   obtain rfl := Option.some.inj H
   go_enter Try.func106, Try.ntmps106
   go_wp2
   go_ret
   exact ⟨by first | rfl | (simp; done) | (simp [*]; done) | (simp [i64_w, i32_w]; done), by repeat (first | exact Drawn0.refl _ | apply Drawn0.step)⟩
/-! ### spec_l01Digit: function 107 -/
def spec_l01Digit.f (a0 : Int) : Option (Bool) := if a0 ≥ 48 then (some (decide (a0 ≤ 57))) else (some false)
set_option maxHeartbeats 8000000 in
set_option maxRecDepth 100000 in
theorem spec_l01Digit.calls (a0 : Int) (r : Bool) (w : World) (h : spec_l01Digit.f a0 = some r) :
    Calls Try.prog 107 #[.int .u8 a0] w fun e w' => e = .returned (.bool r) ∧ Drawn0 w w' := by
 unfold spec_l01Digit.f at h
 have H := h
 clear h
 by_cases c2 : a0 ≥ 48
 · rw [if_pos c2] at H
   have c2b0 := decide_eq_true c2
   clear c2
   obtain rfl := Option.some.inj H
   go_enter Try.func107, Try.ntmps107
   go_wp2
   go_ret
   exact ⟨by first | rfl | (simp; done) | (simp [*]; done) | (simp [i64_w, i32_w]; done), by repeat (first | exact Drawn0.refl _ | apply Drawn0.step)⟩
 · rw [if_neg c2] at H
   have c2b0 := decide_eq_false c2
   clear c2
   obtain rfl := Option.some.inj H
   go_enter Try.func107, Try.ntmps107
   go_wp2
   go_ret
   exact ⟨by first | rfl | (simp; done) | (simp [*]; done) | (simp [i64_w, i32_w]; done), by repeat (first | exact Drawn0.refl _ | apply Drawn0.step)⟩
end Go.Proofs.Ytakagkflgkoiiaa.GFnExactFirstUncovered
