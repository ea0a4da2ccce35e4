-- Written by the session's own program (gen.py) out of the translation's print. Lean checks it.
import Derived.Test.YtakagkflgkoiiaaQ
import Derived.Test.YtakagkflgkoiiaaGFnExactIsCoverx0
import Derived.Test.YtakagkflgkoiiaaGFnExactIsCoverx5
namespace Go.Proofs.Ytakagkflgkoiiaa.GFnExactIsCover
open Go.RowKit Go.Proofs.YtakagkflgkoiiaaW.PrintWords Go.Proofs.YtakagkflgkoiiaaW.PrintLast Go.Proofs.YtakagkflgkoiiaaW.PrintMore
open List renaming setIfInBounds_toArray → sA, set_cons_zero → sB, set_cons_succ → sC
open Go.Proofs.YtakagkflgkoiiaaW.PrintWords.Aside0 renaming mk → mkA
open Go.Proofs.YtakagkflgkoiiaaX (dt_ bc_ p0_ p1_ bl_ cb_ bs0_ bs1_ bs2_ bs3_ bs4_ bs5_ bs6_ bs7_ bs8_ bs9_ bs10_ bs11_ bs12_)
open Go.Proofs.YtakagkflgkoiiaaQ
attribute [local go_sem] max2_int min2_int max_two min_two max_three min_three max_four min_four 
set_option linter.unusedVariables false
set_option linter.unusedSimpArgs false

/-! ### spec_l19Ok: function 55 -/
mutual
def spec_l19Ok.j0 : Nat → Bool → List (S27) → Option (Bool)
  | 0, _, _ => none
  | k + 1, x34, x960 => if x34 = true then (some false) else (spec_l19Ok.l0 k 0 x960)
def spec_l19Ok.l0 : Nat → Int → List (S27) → Option (Bool)
  | 0, _, _ => none
  | k + 1, x3, x960 => if 0 < (x960.length : Int) then (if x3 < (((rd_T27 x960 0).f2).length : Int) then (if 0 ≤ x3 then ((spec_l00In.f (rd ((rd_T27 x960 0).f2) x3) 0 1).bind fun t188 => (if t188 = true then (spec_l19Ok.l0 k (wrap64 (x3 + 1)) x960) else (some false))) else (none)) else (some true)) else (none)
end
def spec_l19Ok.f (k : Nat) (l0 : List (S27)) : Option (Bool) := if 0 < (l0.length : Int) then ((spec_l00In.f ((rd_T27 l0 0).f0) 1 12).bind fun t179 => (if t179 = true then ((spec_l00In.f ((rd_T27 l0 0).f1) 1 12).bind fun t181 => (if t181 = true then (spec_l19Ok.j0 k ((((rd_T27 l0 0).f2).length : Int) != (wrap64 (((rd_T27 l0 0).f0) * ((rd_T27 l0 0).f1)))) l0) else (spec_l19Ok.j0 k true l0))) else (spec_l19Ok.j0 k true l0))) else (none)
def spec_l19Ok.T1 : Bool × List (List Nat × List Nat) := (true, [([], []), ([0], [0]), ([1], [1]), ([2], [2]), ([3], [3]), ([4], [4]), ([5, 4], [5]), ([6], [6]), ([7, 6], [6, 7]), ([8, 6], [6, 8]), ([9, 6], [6, 9]), ([10, 6, 6], [6, 10]), ([11, 6], [6, 11]), ([6, 12], [6, 12]), ([13, 11], [13]), ([14], [14]), ([15, 14], [14, 15]), ([16, 14], [14, 16]), ([17, 14], [14, 17]), ([18, 14], [14, 18]), ([14], [14]), ([20, 14], [14, 20]), ([21, 14], [14, 21]), ([22, 14], [14, 22]), ([14], [14]), ([24, 14], [14, 24]), ([25, 14], [14, 25]), ([26, 14], [14, 26]), ([23, 27, 14], [14, 23, 27]), ([19, 28, 14], [14, 19, 28]), ([14, 29], [14, 29])])
def spec_l19Ok.B1 : List Nat := [0, 1, 3, 7, 15, 31, 63, 127, 255, 511, 1023, 2047, 4095, 8191, 16383, 32767, 65535, 131071, 262143, 524287, 32767, 1081343, 3178495, 7372799, 32767, 16809983, 50364415, 117473279, 267419647, 536870911, 1073741823]
theorem spec_l19Ok.tab1 : rtab .any (opsOf Try.f55 1) = spec_l19Ok.T1 := by kernel_rfl
theorem spec_l19Ok.bits1 : waitsOk spec_l19Ok.T1.2 spec_l19Ok.B1 = true := by kernel_rfl
set_option maxHeartbeats 8000000 in
set_option maxRecDepth 100000 in
theorem spec_l19Ok.calls (k : Nat) (A0 : Option Addr) (l0 : List (S27)) (r : Bool) (w : World) (hr0 : Kd.C k27 w A0 l0.length l0) (h : spec_l19Ok.f k l0 = some r) :
 Calls Try.prog 55 #[.pointer A0] w fun e w' => e = .returned (.bool r) ∧ Below w.heap.size w w' := by
 have HR0 := mkA hr0
 clear hr0
 have HB := mkA (Below.refl w.heap.size w)
 unfold spec_l19Ok.f at h
 have H := h
 clear h
 have HC2 := mkA H
 clear H
 go_enter Try.func55, Try.ntmps55
 go_upto_region 1 with (fail)
 go_cut [34] (fun v34 wc => ∃ (kq : Nat) (x34_1 : Bool), v34 = .bool x34_1 ∧ Aside0 (spec_l19Ok.j0 kq x34_1 l0 = some r) ∧ Aside0 (kq ≤ k) ∧ Aside0 (Below w.heap.size w wc))
 case first =>
  have H := HC2.out
  clear HC2
  revert H
  refine ng_ fun c3 => ?_
  intro H
  have c3b0 := decide_eq_true c3
  have c3b1 : decide (0 < l0.length) = true := decide_eq_true (by omega)
  clear c3
  (first | rw [c3b0] | (simp only [i64_w, i32_w]; rw [c3b0]) | skip)
  revert H
  refine ob_ fun t179 A4 => ?_
  intro H
  by_cases c5 : t179 = true
  rotate_left
  · replace c5 := Bool.eq_false_iff.mpr c5
    subst c5
    rw [if_neg Bool.false_ne_true] at H
    have H' := mkA H
    clear H
    try go_wp2
    replace HB := mkA (below_drew1 HB.out)
    obtain ⟨ad178, A178_2, c178_2, e178, hw178_0, hw178_1, hw178_2, hl178_2, hi178_2⟩ := at0_T27 HR0.out dt_
    cases e178
    have HR178_2 := mkA hi178_2
    have HC178_2 := mkA hl178_2
    clear hi178_2 hl178_2
    obtain ⟨hx178_0, hx178_1, hx178_2⟩ := b3_ HB.out hw178_0 hw178_1 hw178_2
    have p178 : (0 ≤ (0 : Int)) = True := eq_true (by omega)
    have q178 : (0 < (l0.length : Int)) = True := eq_true dt_
    have qi178 := qn_ q178
    refine st_ 31 (fun w' => C_ hw178_0 w' ∧ C_ hw178_1 w' ∧ C_ hw178_2 w') [] spec_l19Ok.tab1 spec_l19Ok.bits1 sp_ fun hHeld HT_ HW_ => ?_
    generalize w.drew = w10 at HB HR178_2 hx178_0 hx178_1 hx178_2 hHeld ⊢
    refine a1_ 0 4 (h := a1_ 1 5 (h := a1_ 2 6 (h := tk_ 3 7 (h := ?_))))
    refine on_ 4 8 fun K hK => ?_
    refine go_ Try.func60 #[.int .i64 ((rd_T27 l0 0).f0), .int .i64 1, .int .i64 12] ?_
    with_reducible refine (spec_l00In.calls ((rd_T27 l0 0).f0) 1 12 false _ A4.out).mono ?_
    rintro e w' ⟨rfl, ⟨nd, rfl⟩⟩
    refine ⟨_, rfl, ?_⟩
    refine hK.out _ _ sp_ fun hHeld => ?_
    clear hK K
    refine nm_ 8 ?_
    refine a1_ 5 9 (h := a1_ 6 10 (h := a0_ 7 11 (h := a0_ 8 12 (h := a0_ 9 13 (h := a0_ 10 14 (h := a0_ 11 15 (h := a0_ 12 16 (h := a1_ 13 17 (h := a1_ 14 18 (h := a0_ 15 19 (h := a0_ 16 20 (h := a0_ 17 21 (h := a0_ 18 22 (h := a0_ 19 23 (h := a0_ 20 24 (h := a0_ 21 25 (h := a0_ 22 26 (h := a0_ 23 27 (h := a0_ 24 28 (h := a0_ 25 29 (h := a0_ 26 30 (h := a0_ 27 31 (h := a0_ 28 32 (h := a0_ 29 33 (h := a1_ 30 34 (h := ?_))))))))))))))))))))))))))
    refine dn_ ?_
    try go_wp2
    go_meet
    case rel => exact ⟨_, (true), rf_, H', ⟨by first | omega | exact Nat.le_refl _⟩, ⟨bs0_ HB.out⟩⟩
  subst c5
  rw [if_pos rfl] at H
  revert H
  refine ob_ fun t181 A6 => ?_
  intro H
  by_cases c7 : t181 = true
  rotate_left
  · replace c7 := Bool.eq_false_iff.mpr c7
    subst c7
    rw [if_neg Bool.false_ne_true] at H
    have H' := mkA H
    clear H
    try go_wp2
    replace HB := mkA (below_drew1 HB.out)
    obtain ⟨ad178, A178_2, c178_2, e178, hw178_0, hw178_1, hw178_2, hl178_2, hi178_2⟩ := at0_T27 HR0.out dt_
    cases e178
    have HR178_2 := mkA hi178_2
    have HC178_2 := mkA hl178_2
    clear hi178_2 hl178_2
    obtain ⟨hx178_0, hx178_1, hx178_2⟩ := b3_ HB.out hw178_0 hw178_1 hw178_2
    have p178 : (0 ≤ (0 : Int)) = True := eq_true (by omega)
    have q178 : (0 < (l0.length : Int)) = True := eq_true dt_
    have qi178 := qn_ q178
    obtain ⟨ad180, A180_2, c180_2, e180, hw180_0, hw180_1, hw180_2, hl180_2, hi180_2⟩ := at0_T27 HR0.out dt_
    obtain rfl : ad178 = ad180 := (by injection e180)
    have HR180_2 := mkA hi180_2
    have HC180_2 := mkA hl180_2
    clear hi180_2 hl180_2
    obtain ⟨hx180_0, hx180_1, hx180_2⟩ := b3_ HB.out hw180_0 hw180_1 hw180_2
    have p180 : (0 ≤ (0 : Int)) = True := eq_true (by omega)
    have q180 : (0 < (l0.length : Int)) = True := eq_true dt_
    have qi180 := qn_ q180
    have ea_ := Option.some.inj (hx178_2.symm.trans hx180_2)
    injection ea_ with ea_ en_ ec_
    subst ea_
    subst ec_
    clear en_
    refine st_ 31 (fun w' => C_ hw178_0 w' ∧ C_ hw178_1 w' ∧ C_ hw178_2 w' ∧ C_ hw180_0 w' ∧ C_ hw180_1 w' ∧ C_ hw180_2 w') [] spec_l19Ok.tab1 spec_l19Ok.bits1 sp_ fun hHeld HT_ HW_ => ?_
    generalize w.drew = w9 at HB HR178_2 HR180_2 hx178_0 hx178_1 hx178_2 hx180_0 hx180_1 hx180_2 hHeld ⊢
    refine a1_ 0 4 (h := a1_ 1 5 (h := a1_ 2 6 (h := tk_ 3 7 (h := ?_))))
    refine on_ 4 8 fun K hK => ?_
    refine go_ Try.func60 #[.int .i64 ((rd_T27 l0 0).f0), .int .i64 1, .int .i64 12] ?_
    with_reducible refine (spec_l00In.calls ((rd_T27 l0 0).f0) 1 12 true _ A4.out).mono ?_
    rintro e w' ⟨rfl, ⟨nd, rfl⟩⟩
    refine ⟨_, rfl, ?_⟩
    refine hK.out _ _ sp_ fun hHeld => ?_
    clear hK K
    refine nm_ 8 ?_
    refine a1_ 5 9 (h := a1_ 6 10 (h := a1_ 7 11 (h := a1_ 8 12 (h := a1_ 9 13 (h := tk_ 10 14 (h := ?_))))))
    refine on_ 11 15 fun K hK => ?_
    refine go_ Try.func60 #[.int .i64 ((rd_T27 l0 0).f1), .int .i64 1, .int .i64 12] ?_
    with_reducible refine (spec_l00In.calls ((rd_T27 l0 0).f1) 1 12 false _ A6.out).mono ?_
    rintro e w' ⟨rfl, ⟨nd, rfl⟩⟩
    refine ⟨_, rfl, ?_⟩
    refine hK.out _ _ sp_ fun hHeld => ?_
    clear hK K
    refine nm_ 15 ?_
    refine a1_ 12 16 (h := a1_ 13 17 (h := a1_ 14 18 (h := a0_ 15 19 (h := a0_ 16 20 (h := a0_ 17 21 (h := a0_ 18 22 (h := a0_ 19 23 (h := a0_ 20 24 (h := a0_ 21 25 (h := a0_ 22 26 (h := a0_ 23 27 (h := a0_ 24 28 (h := a0_ 25 29 (h := a0_ 26 30 (h := a0_ 27 31 (h := a0_ 28 32 (h := a0_ 29 33 (h := a1_ 30 34 (h := ?_)))))))))))))))))))
    refine dn_ ?_
    try go_wp2
    go_meet
    case rel => exact ⟨_, (true), rf_, H', ⟨by first | omega | exact Nat.le_refl _⟩, ⟨bs0_ HB.out⟩⟩
  subst c7
  rw [if_pos rfl] at H
  have H' := mkA H
  clear H
  try go_wp2
  replace HB := mkA (below_drew1 HB.out)
  obtain ⟨ad178, A178_2, c178_2, e178, hw178_0, hw178_1, hw178_2, hl178_2, hi178_2⟩ := at0_T27 HR0.out dt_
  cases e178
  have HR178_2 := mkA hi178_2
  have HC178_2 := mkA hl178_2
  clear hi178_2 hl178_2
  obtain ⟨hx178_0, hx178_1, hx178_2⟩ := b3_ HB.out hw178_0 hw178_1 hw178_2
  have p178 : (0 ≤ (0 : Int)) = True := eq_true (by omega)
  have q178 : (0 < (l0.length : Int)) = True := eq_true dt_
  have qi178 := qn_ q178
  obtain ⟨ad180, A180_2, c180_2, e180, hw180_0, hw180_1, hw180_2, hl180_2, hi180_2⟩ := at0_T27 HR0.out dt_
  obtain rfl : ad178 = ad180 := (by injection e180)
  have HR180_2 := mkA hi180_2
  have HC180_2 := mkA hl180_2
  clear hi180_2 hl180_2
  obtain ⟨hx180_0, hx180_1, hx180_2⟩ := b3_ HB.out hw180_0 hw180_1 hw180_2
  have p180 : (0 ≤ (0 : Int)) = True := eq_true (by omega)
  have q180 : (0 < (l0.length : Int)) = True := eq_true dt_
  have qi180 := qn_ q180
  have ea_ := Option.some.inj (hx178_2.symm.trans hx180_2)
  injection ea_ with ea_ en_ ec_
  subst ea_
  subst ec_
  clear en_
  obtain ⟨ad182, A182_2, c182_2, e182, hw182_0, hw182_1, hw182_2, hl182_2, hi182_2⟩ := at0_T27 HR0.out dt_
  obtain rfl : ad178 = ad182 := (by injection e182)
  have HR182_2 := mkA hi182_2
  have HC182_2 := mkA hl182_2
  clear hi182_2 hl182_2
  obtain ⟨hx182_0, hx182_1, hx182_2⟩ := b3_ HB.out hw182_0 hw182_1 hw182_2
  have p182 : (0 ≤ (0 : Int)) = True := eq_true (by omega)
  have q182 : (0 < (l0.length : Int)) = True := eq_true dt_
  have qi182 := qn_ q182
  have ea_ := Option.some.inj (hx178_2.symm.trans hx182_2)
  injection ea_ with ea_ en_ ec_
  subst ea_
  subst ec_
  clear en_
  obtain ⟨ad183, A183_2, c183_2, e183, hw183_0, hw183_1, hw183_2, hl183_2, hi183_2⟩ := at0_T27 HR0.out dt_
  obtain rfl : ad178 = ad183 := (by injection e183)
  have HR183_2 := mkA hi183_2
  have HC183_2 := mkA hl183_2
  clear hi183_2 hl183_2
  obtain ⟨hx183_0, hx183_1, hx183_2⟩ := b3_ HB.out hw183_0 hw183_1 hw183_2
  have p183 : (0 ≤ (0 : Int)) = True := eq_true (by omega)
  have q183 : (0 < (l0.length : Int)) = True := eq_true dt_
  have qi183 := qn_ q183
  have ea_ := Option.some.inj (hx178_2.symm.trans hx183_2)
  injection ea_ with ea_ en_ ec_
  subst ea_
  subst ec_
  clear en_
  obtain ⟨ad184, A184_2, c184_2, e184, hw184_0, hw184_1, hw184_2, hl184_2, hi184_2⟩ := at0_T27 HR0.out dt_
  obtain rfl : ad178 = ad184 := (by injection e184)
  have HR184_2 := mkA hi184_2
  have HC184_2 := mkA hl184_2
  clear hi184_2 hl184_2
  obtain ⟨hx184_0, hx184_1, hx184_2⟩ := b3_ HB.out hw184_0 hw184_1 hw184_2
  have p184 : (0 ≤ (0 : Int)) = True := eq_true (by omega)
  have q184 : (0 < (l0.length : Int)) = True := eq_true dt_
  have qi184 := qn_ q184
  have ea_ := Option.some.inj (hx178_2.symm.trans hx184_2)
  injection ea_ with ea_ en_ ec_
  subst ea_
  subst ec_
  clear en_
  refine st_ 31 (fun w' => C_ hw178_0 w' ∧ C_ hw178_1 w' ∧ C_ hw178_2 w' ∧ C_ hw180_0 w' ∧ C_ hw180_1 w' ∧ C_ hw180_2 w' ∧ C_ hw182_0 w' ∧ C_ hw182_1 w' ∧ C_ hw182_2 w' ∧ C_ hw183_0 w' ∧ C_ hw183_1 w' ∧ C_ hw183_2 w' ∧ C_ hw184_0 w' ∧ C_ hw184_1 w' ∧ C_ hw184_2 w') [] spec_l19Ok.tab1 spec_l19Ok.bits1 sp_ fun hHeld HT_ HW_ => ?_
  generalize w.drew = w8 at HB HR178_2 HR180_2 HR182_2 HR183_2 HR184_2 hx178_0 hx178_1 hx178_2 hx180_0 hx180_1 hx180_2 hx182_0 hx182_1 hx182_2 hx183_0 hx183_1 hx183_2 hx184_0 hx184_1 hx184_2 hHeld ⊢
  refine a1_ 0 4 (h := a1_ 1 5 (h := a1_ 2 6 (h := tk_ 3 7 (h := ?_))))
  refine on_ 4 8 fun K hK => ?_
  refine go_ Try.func60 #[.int .i64 ((rd_T27 l0 0).f0), .int .i64 1, .int .i64 12] ?_
  with_reducible refine (spec_l00In.calls ((rd_T27 l0 0).f0) 1 12 true _ A4.out).mono ?_
  rintro e w' ⟨rfl, ⟨nd, rfl⟩⟩
  refine ⟨_, rfl, ?_⟩
  refine hK.out _ _ sp_ fun hHeld => ?_
  clear hK K
  refine nm_ 8 ?_
  refine a1_ 5 9 (h := a1_ 6 10 (h := a1_ 7 11 (h := a1_ 8 12 (h := a1_ 9 13 (h := tk_ 10 14 (h := ?_))))))
  refine on_ 11 15 fun K hK => ?_
  refine go_ Try.func60 #[.int .i64 ((rd_T27 l0 0).f1), .int .i64 1, .int .i64 12] ?_
  with_reducible refine (spec_l00In.calls ((rd_T27 l0 0).f1) 1 12 true _ A6.out).mono ?_
  rintro e w' ⟨rfl, ⟨nd, rfl⟩⟩
  refine ⟨_, rfl, ?_⟩
  refine hK.out _ _ sp_ fun hHeld => ?_
  clear hK K
  refine nm_ 15 ?_
  refine a1_ 12 16 (h := a1_ 13 17 (h := a1_ 14 18 (h := a1_ 15 19 (h := a1_ 16 20 (h := a1_ 17 21 (h := a1_ 20 24 (h := a1_ 21 25 (h := a1_ 22 26 (h := a1_ 24 28 (h := a1_ 25 29 (h := a1_ 26 30 (h := tk_ 18 22 (h := a1_ 19 23 (h := tk_ 23 27 (h := tk_ 27 31 (h := a1_ 28 32 (h := a1_ 29 33 (h := a1_ 30 34 (h := ?_)))))))))))))))))))
  refine dn_ ?_
  try go_wp2
  go_meet
  case rel => exact ⟨_, (((((rd_T27 l0 0).f2).length : Int) != (wrap64 (((rd_T27 l0 0).f0) * ((rd_T27 l0 0).f1))))), rf_, H', ⟨by first | omega | exact Nat.le_refl _⟩, ⟨bs0_ HB.out⟩⟩
 case rest =>
  clear HC2
  try clear c3 c5 c7
  try clear hx178_0 hx178_1 hx178_2 hx180_0 hx180_1 hx180_2
  try clear p178 p180
  try clear q178 q180
  obtain ⟨kq, x34_1, rfl, HA, HJ1, HB⟩ := hcut
  cases kq with
  | zero => exact absurd HA.out (by simp [spec_l19Ok.j0])
  | succ kj1 =>
   have H := HA.out
   clear HA
   simp only [spec_l19Ok.j0] at H
   by_cases c11 : x34_1 = true
   · subst c11
     rw [if_pos rfl] at H
     obtain rfl := Option.some.inj H
     go_wp2
     go_ret
     exact ⟨re_, bs0_ HB.out⟩
   · replace c11 := Bool.eq_false_iff.mpr c11
     subst c11
     rw [if_neg Bool.false_ne_true] at H
     have H' := mkA H
     clear H
     go_wp2
     go_loopg [3] kj1 (fun kq v3 w' => ∃ (x3_2 : Int), v3 = .int .i64 x3_2 ∧ Aside0 (spec_l19Ok.l0 kq x3_2 l0 = some r) ∧ Aside0 (kq ≤ kj1) ∧ Aside0 (Below w.heap.size w w'))
     case atStart => exact ⟨(0), rf_, H', ⟨Nat.le_refl _⟩, ⟨bs0_ HB.out⟩⟩
     case round =>
      clear H'
      try clear c3 c5 c7 c11
      try clear hx178_0 hx178_1 hx178_2 hx180_0 hx180_1 hx180_2
      try clear p178 p180
      try clear q178 q180
      obtain ⟨x3_2, rfl, HA, HK2, HB⟩ := hrel
      cases gk with
      | zero => exact absurd HA.out (by simp [spec_l19Ok.l0])
      | succ k2 =>
       have H := HA.out
       clear HA
       simp only [spec_l19Ok.l0] at H
       revert H
       refine ng_ fun c12 => ?_
       intro H
       have c12b0 := decide_eq_true c12
       have c12b1 : decide (0 < l0.length) = true := decide_eq_true (by omega)
       clear c12
       by_cases c13 : x3_2 < (((rd_T27 l0 0).f2).length : Int)
       rotate_left
       · rw [if_neg c13] at H
         have c13b0 := decide_eq_false c13
         clear c13
         obtain rfl := Option.some.inj H
         obtain ⟨ad185, A185_2, c185_2, e185, hx185_0, hx185_1, hx185_2, hl185_2, hi185_2⟩ := at0_T27 HR0.out dt_
         cases e185
         have HR185_2 := mkA hi185_2
         have HC185_2 := mkA hl185_2
         clear hi185_2 hl185_2
         obtain ⟨hx185_0, hx185_1, hx185_2⟩ := b3_ HB.out hx185_0 hx185_1 hx185_2
         have p185 : (0 ≤ (0 : Int)) = True := eq_true (by omega)
         have q185 : (0 < (l0.length : Int)) = True := eq_true dt_
         have qi185 := qn_ q185
         go_wp2
         go_ret
         exact ⟨re_, bs0_ HB.out⟩
       rw [if_pos c13] at H
       have c13b0 := decide_eq_true c13
       clear c13
       revert H
       refine ng_ fun c14 => ob_ fun t188 A15 => ?_
       intro H
       have c14b0 := decide_eq_true c14
       clear c14
       by_cases c16 : t188 = true
       rotate_left
       · replace c16 := Bool.eq_false_iff.mpr c16
         subst c16
         rw [if_neg Bool.false_ne_true] at H
         obtain rfl := Option.some.inj H
         obtain ⟨ad185, A185_2, c185_2, e185, hx185_0, hx185_1, hx185_2, hl185_2, hi185_2⟩ := at0_T27 HR0.out dt_
         cases e185
         have HR185_2 := mkA hi185_2
         have HC185_2 := mkA hl185_2
         clear hi185_2 hl185_2
         obtain ⟨hx185_0, hx185_1, hx185_2⟩ := b3_ HB.out hx185_0 hx185_1 hx185_2
         have p185 : (0 ≤ (0 : Int)) = True := eq_true (by omega)
         have q185 : (0 < (l0.length : Int)) = True := eq_true dt_
         have qi185 := qn_ q185
         obtain ⟨ad186, A186_2, c186_2, e186, hx186_0, hx186_1, hx186_2, hl186_2, hi186_2⟩ := at0_T27 HR0.out dt_
         obtain rfl : ad185 = ad186 := (by injection e186)
         have HR186_2 := mkA hi186_2
         have HC186_2 := mkA hl186_2
         clear hi186_2 hl186_2
         obtain ⟨hx186_0, hx186_1, hx186_2⟩ := b3_ HB.out hx186_0 hx186_1 hx186_2
         have p186 : (0 ≤ (0 : Int)) = True := eq_true (by omega)
         have q186 : (0 < (l0.length : Int)) = True := eq_true dt_
         have qi186 := qn_ q186
         have ea_ := Option.some.inj (hx185_2.symm.trans hx186_2)
         injection ea_ with ea_ en_ ec_
         subst ea_
         subst ec_
         clear en_
         obtain ⟨ad187, e187, hx187_0⟩ := Kd.at_int HR186_2.out x3_2 dt_ dt_
         cases e187
         replace hx187_0 := bc_ HB.out hx187_0
         have p187 : (0 ≤ (x3_2 : Int)) = True := eq_true dt_
         have q187 : (x3_2 < (((rd_T27 l0 0).f2).length : Int)) = True := eq_true dt_
         go_wp2_with (first | ((with_reducible refine gk_ 60 ?_); refine gl_ (some 51) Try.func60 #[.int .i64 (rd ((rd_T27 l0 0).f2) x3_2), .int .i64 0, .int .i64 1] ?_; (with_reducible refine (spec_l00In.calls (rd ((rd_T27 l0 0).f2) x3_2) 0 1 false _ A15.out).mono ?_); rintro e w' ⟨rfl, ⟨nd, rfl⟩⟩; refine ⟨_, rfl, ?_⟩))
         go_ret
         exact ⟨re_, bs0_ HB.out⟩
       subst c16
       rw [if_pos rfl] at H
       have H' := mkA H
       clear H
       obtain ⟨ad185, A185_2, c185_2, e185, hx185_0, hx185_1, hx185_2, hl185_2, hi185_2⟩ := at0_T27 HR0.out dt_
       cases e185
       have HR185_2 := mkA hi185_2
       have HC185_2 := mkA hl185_2
       clear hi185_2 hl185_2
       obtain ⟨hx185_0, hx185_1, hx185_2⟩ := b3_ HB.out hx185_0 hx185_1 hx185_2
       have p185 : (0 ≤ (0 : Int)) = True := eq_true (by omega)
       have q185 : (0 < (l0.length : Int)) = True := eq_true dt_
       have qi185 := qn_ q185
       obtain ⟨ad186, A186_2, c186_2, e186, hx186_0, hx186_1, hx186_2, hl186_2, hi186_2⟩ := at0_T27 HR0.out dt_
       obtain rfl : ad185 = ad186 := (by injection e186)
       have HR186_2 := mkA hi186_2
       have HC186_2 := mkA hl186_2
       clear hi186_2 hl186_2
       obtain ⟨hx186_0, hx186_1, hx186_2⟩ := b3_ HB.out hx186_0 hx186_1 hx186_2
       have p186 : (0 ≤ (0 : Int)) = True := eq_true (by omega)
       have q186 : (0 < (l0.length : Int)) = True := eq_true dt_
       have qi186 := qn_ q186
       have ea_ := Option.some.inj (hx185_2.symm.trans hx186_2)
       injection ea_ with ea_ en_ ec_
       subst ea_
       subst ec_
       clear en_
       obtain ⟨ad187, e187, hx187_0⟩ := Kd.at_int HR186_2.out x3_2 dt_ dt_
       cases e187
       replace hx187_0 := bc_ HB.out hx187_0
       have p187 : (0 ≤ (x3_2 : Int)) = True := eq_true dt_
       have q187 : (x3_2 < (((rd_T27 l0 0).f2).length : Int)) = True := eq_true dt_
       go_wp2_with (first | ((with_reducible refine gk_ 60 ?_); refine gl_ (some 51) Try.func60 #[.int .i64 (rd ((rd_T27 l0 0).f2) x3_2), .int .i64 0, .int .i64 1] ?_; (with_reducible refine (spec_l00In.calls (rd ((rd_T27 l0 0).f2) x3_2) 0 1 true _ A15.out).mono ?_); rintro e w' ⟨rfl, ⟨nd, rfl⟩⟩; refine ⟨_, rfl, ?_⟩))
       go_roundg k2
       case measure => have := HJ1.out; have := HK2.out; omega
       case rel => exact ⟨(wrap64 (x3_2 + 1)), rf_, H', ⟨on2_ HJ1.out HK2.out⟩, ⟨bs0_ HB.out⟩⟩
/-! ### spec_l01Small: function 106 -/
def spec_l01Small.f (a0 : Int) : Option (Bool) := if a0 ≥ 97 then (some (decide (a0 ≤ 122))) else (some false)
set_option maxHeartbeats 8000000 in
set_option maxRecDepth 100000 in
theorem spec_l01Small.calls (a0 : Int) (r : Bool) (w : World) (h : spec_l01Small.f a0 = some r) :
 Calls Try.prog 106 #[.int .u8 a0] w fun e w' => e = .returned (.bool r) ∧ Drawn0 w w' := by
 unfold spec_l01Small.f at h
 have H := h
 clear h
 by_cases c2 : a0 ≥ 97
 · rw [if_pos c2] at H
   have c2b0 := decide_eq_true c2
   clear c2
   obtain rfl := Option.some.inj H
   go_enter Try.func106, Try.ntmps106
   go_wp2
   go_ret
   exact ⟨by first | rfl | (simp; done) | (simp [*]; done) | (simp [i64_w, i32_w]; done), by repeat (first | exact Drawn0.refl _ | apply Drawn0.step)⟩
 · rw [if_neg c2] at H
   have c2b0 := decide_eq_false c2
   clear c2
   obtain rfl := Option.some.inj H
   go_enter Try.func106, Try.ntmps106
   go_wp2
   go_ret
   exact ⟨by first | rfl | (simp; done) | (simp [*]; done) | (simp [i64_w, i32_w]; done), by repeat (first | exact Drawn0.refl _ | apply Drawn0.step)⟩
/-! ### spec_l01Digit: function 107 -/
def spec_l01Digit.f (a0 : Int) : Option (Bool) := if a0 ≥ 48 then (some (decide (a0 ≤ 57))) else (some false)
set_option maxHeartbeats 8000000 in
set_option maxRecDepth 100000 in
theorem spec_l01Digit.calls (a0 : Int) (r : Bool) (w : World) (h : spec_l01Digit.f a0 = some r) :
 Calls Try.prog 107 #[.int .u8 a0] w fun e w' => e = .returned (.bool r) ∧ Drawn0 w w' := by
 unfold spec_l01Digit.f at h
 have H := h
 clear h
 by_cases c2 : a0 ≥ 48
 · rw [if_pos c2] at H
   have c2b0 := decide_eq_true c2
   clear c2
   obtain rfl := Option.some.inj H
   go_enter Try.func107, Try.ntmps107
   go_wp2
   go_ret
   exact ⟨by first | rfl | (simp; done) | (simp [*]; done) | (simp [i64_w, i32_w]; done), by repeat (first | exact Drawn0.refl _ | apply Drawn0.step)⟩
 · rw [if_neg c2] at H
   have c2b0 := decide_eq_false c2
   clear c2
   obtain rfl := Option.some.inj H
   go_enter Try.func107, Try.ntmps107
   go_wp2
   go_ret
   exact ⟨by first | rfl | (simp; done) | (simp [*]; done) | (simp [i64_w, i32_w]; done), by repeat (first | exact Drawn0.refl _ | apply Drawn0.step)⟩
end Go.Proofs.Ytakagkflgkoiiaa.GFnExactIsCover
