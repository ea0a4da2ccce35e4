-- Written by the session's own program (gen.py) out of the translation's print. Lean checks it.
import Derived.Test.YtakagkflgkoiiaaQ
import Derived.Test.YtakagkflgkoiiaaGFnExactFirstUncoveredx0
import Derived.Test.YtakagkflgkoiiaaGFnExactFirstUncoveredx11
namespace Go.Proofs.Ytakagkflgkoiiaa.GFnExactFirstUncovered
open Go.RowKit Go.Proofs.YtakagkflgkoiiaaW.PrintWords Go.Proofs.YtakagkflgkoiiaaW.PrintLast Go.Proofs.YtakagkflgkoiiaaW.PrintMore
open List renaming setIfInBounds_toArray → sA, set_cons_zero → sB, set_cons_succ → sC
open Go.Proofs.YtakagkflgkoiiaaW.PrintWords.Aside0 renaming mk → mkA
open Go.Proofs.YtakagkflgkoiiaaX (dt_ bc_ p0_ p1_ bl_ cb_ bs0_ bs1_ bs2_ bs3_ bs4_ bs5_ bs6_ bs7_ bs8_ bs9_ bs10_ bs11_ bs12_)
open Go.Proofs.YtakagkflgkoiiaaQ
attribute [local go_sem] max2_int min2_int max_two min_two max_three min_three max_four min_four 
set_option linter.unusedVariables false
set_option linter.unusedSimpArgs false

/-! ### spec_l19Uncovered: function 82 -/
mutual
def spec_l19Uncovered.l0 : Nat → List (S53) → List (S109) → List Int → Int → List (S27) → Option (Int)
  | 0, _, _, _, _, _ => none
  | k + 1, x1, x2, x7, x8, x960 => if x8 < (x2.length : Int) then (if 0 ≤ x8 then (if 0 ≤ ((rd_T109 x2 x8).f0) then (if ((rd_T109 x2 x8).f0) < (x1.length : Int) then ((spec_l19Cells.f k [rd_T53 x1 ((rd_T109 x2 x8).f0)] ((rd_T109 x2 x8).f1) ((rd_T109 x2 x8).f2) ((rd_T109 x2 x8).f3)).bind fun t360 => (spec_l19Uncovered.l1 k x1 x2 x7 x8 t360 0 x960)) else (none)) else (none)) else (none)) else (spec_l19Uncovered.l2 k x7 0 x960)
def spec_l19Uncovered.l1 : Nat → List (S53) → List (S109) → List Int → Int → List (S105) → Int → List (S27) → Option (Int)
  | 0, _, _, _, _, _, _, _ => none
  | k + 1, x1, x2, x7, x8, x9, x10, x960 => if x10 < (x9.length : Int) then (if 0 ≤ x10 then (if 0 < (x960.length : Int) then (if 0 ≤ (wrap64 ((wrap64 (((rd_T105 x9 x10).f1) * ((rd_T27 x960 0).f0))) + ((rd_T105 x9 x10).f0))) then (if (wrap64 ((wrap64 (((rd_T105 x9 x10).f1) * ((rd_T27 x960 0).f0))) + ((rd_T105 x9 x10).f0))) < (x7.length : Int) then (spec_l19Uncovered.l1 k x1 x2 (x7.set ((wrap64 ((wrap64 (((rd_T105 x9 x10).f1) * ((rd_T27 x960 0).f0))) + ((rd_T105 x9 x10).f0))) : Int).toNat (wrap64 ((rd x7 (wrap64 ((wrap64 (((rd_T105 x9 x10).f1) * ((rd_T27 x960 0).f0))) + ((rd_T105 x9 x10).f0)))) + 1))) x8 x9 (wrap64 (x10 + 1)) x960) else (none)) else (none)) else (none)) else (none)) else (spec_l19Uncovered.l0 k x1 x2 x7 (wrap64 (x8 + 1)) x960)
def spec_l19Uncovered.l2 : Nat → List Int → Int → List (S27) → Option (Int)
  | 0, _, _, _ => none
  | k + 1, x7, x11, x960 => if x11 < (x7.length : Int) then (if 0 ≤ x11 then (if 0 < (x960.length : Int) then (if x11 < (((rd_T27 x960 0).f2).length : Int) then (if (rd x7 x11) = (rd ((rd_T27 x960 0).f2) x11) then (spec_l19Uncovered.l2 k x7 (wrap64 (x11 + 1)) x960) else (some x11)) else (none)) else (none)) else (none)) else (some (-1))
end
def spec_l19Uncovered.f (k : Nat) (l0 : List (S27)) (l1 : List (S53)) (l2 : List (S109)) : Option (Int) := if 0 < (l0.length : Int) then (if 0 ≤ (((rd_T27 l0 0).f2).length : Int) then (if ((((rd_T27 l0 0).f2).length : Int) : Int).toNat ≤ 35184372088832 then (spec_l19Uncovered.l0 k l1 l2 (List.replicate ((((rd_T27 l0 0).f2).length : Int) : Int).toNat 0) 0 l0) else (none)) else (none)) else (none)
def spec_l19Uncovered.T5 : Bool × List (List Nat × List Nat) := (true, [([], []), ([], []), ([], []), ([1, 2], [1, 2]), ([3], [3]), ([4], [4]), ([0, 5], [0, 5]), ([], []), ([], []), ([7, 8], [7, 8]), ([9], [9]), ([10], [10]), ([], []), ([], []), ([12, 13], [12, 13]), ([14], [14]), ([15], [15]), ([], []), ([], []), ([17, 18], [17, 18]), ([19], [19]), ([20], [20]), ([6, 11, 16, 21], [6, 11, 16, 21]), ([22, 22, 0, 1, 2, 3, 4, 5, 6, 7, 8, 9, 10, 11, 12, 13, 14, 15, 16, 17, 18, 19, 20, 21, 22], [22])])
def spec_l19Uncovered.B5 : List Nat := [0, 0, 0, 6, 14, 30, 63, 0, 0, 384, 896, 1920, 0, 0, 12288, 28672, 61440, 0, 0, 393216, 917504, 1966080, 4194303, 8388607]
theorem spec_l19Uncovered.tab5 : rtab .any (opsOf Try.f82 5) = spec_l19Uncovered.T5 := by kernel_rfl
theorem spec_l19Uncovered.bits5 : waitsOk spec_l19Uncovered.T5.2 spec_l19Uncovered.B5 = true := by kernel_rfl
def spec_l19Uncovered.T9 : Bool × List (List Nat × List Nat) := (true, [([], []), ([], []), ([], []), ([1, 2], [1, 2]), ([3], [3]), ([4], [4]), ([], []), ([6], [6]), ([7], [7]), ([8], [8]), ([5, 9], [5, 9]), ([], []), ([], []), ([11, 12], [11, 12]), ([13], [13]), ([14], [14]), ([10, 15], [10, 15]), ([0, 16], [0, 16]), ([17], [17]), ([18], [18]), ([0, 16, 0, 1, 2, 3, 4, 5, 6, 7, 8, 9, 10, 11, 12, 13, 14, 15, 16, 17, 18, 19], [0, 16]), ([20, 19, 0, 1, 2, 3, 4, 5, 6, 7, 8, 9, 10, 11, 12, 13, 14, 15, 16, 17, 18, 19], [19, 20])])
def spec_l19Uncovered.B9 : List Nat := [0, 0, 0, 6, 14, 30, 0, 64, 192, 448, 1022, 0, 0, 6144, 14336, 30720, 65534, 131071, 262143, 524287, 1048575, 2097151]
theorem spec_l19Uncovered.tab9 : rtab .any (opsOf Try.f82 9) = spec_l19Uncovered.T9 := by kernel_rfl
theorem spec_l19Uncovered.bits9 : waitsOk spec_l19Uncovered.T9.2 spec_l19Uncovered.B9 = true := by kernel_rfl
def spec_l19Uncovered.T13 : Bool × List (List Nat × List Nat) := (true, [([], []), ([], []), ([0, 1], [0, 1]), ([2], [2]), ([], []), ([4], [4]), ([5], [5]), ([6], [6]), ([], []), ([7, 8], [7, 8]), ([9], [9]), ([3, 10], [3, 10])])
def spec_l19Uncovered.B13 : List Nat := [0, 0, 3, 7, 0, 16, 48, 112, 0, 496, 1008, 2047]
theorem spec_l19Uncovered.tab13 : rtab .any (opsOf Try.f82 13) = spec_l19Uncovered.T13 := by kernel_rfl
theorem spec_l19Uncovered.bits13 : waitsOk spec_l19Uncovered.T13.2 spec_l19Uncovered.B13 = true := by kernel_rfl
set_option maxHeartbeats 8000000 in
set_option maxRecDepth 100000 in
theorem spec_l19Uncovered.calls (k : Nat) (A0 : Option Addr) (l0 : List (S27)) (A1 : Option Addr) (c1 : Nat) (l1 : List (S53)) (A2 : Option Addr) (c2 : Nat) (l2 : List (S109)) (r : Int) (w : World) (hr0 : Kd.C k27 w A0 l0.length l0) (hr1 : Kd.C k53 w A1 l1.length l1) (hc1 : l1.length ≤ c1) (hr2 : Kd.C k109 w A2 l2.length l2) (hc2 : l2.length ≤ c2) (h : spec_l19Uncovered.f k l0 l1 l2 = some r) :
 Calls Try.prog 82 #[.pointer A0, .slice A1 l1.length c1, .slice A2 l2.length c2] w fun e w' => e = .returned (.int .i64 r) ∧ Below w.heap.size w w' := by
 have HR0 := mkA hr0
 clear hr0
 have HR1 := mkA hr1
 have HC1 := mkA hc1
 clear hr1 hc1
 have HR2 := mkA hr2
 have HC2 := mkA hc2
 clear hr2 hc2
 have HB := mkA (Below.refl w.heap.size w)
 unfold spec_l19Uncovered.f at h
 have H := h
 clear h
 revert H
 refine ng_ fun c4 => ng_ fun c5 => ng_ fun c6 => ?_
 intro H
 have c4b0 := decide_eq_true c4
 have c4b1 : decide (0 < l0.length) = true := decide_eq_true (by omega)
 clear c4
 have c5b0 := eq_true c5
 have c5b1 := decide_eq_true c5
 clear c5
 have c6b0 := eq_true c6
 have c6b1 := decide_eq_true c6
 clear c6
 obtain ⟨y352, hy352⟩ := gy_ (List.replicate ((((rd_T27 l0 0).f2).length : Int) : Int).toNat 0 : List Int)
 rw [← hy352] at H
 (try with_reducible replace H := bso_ H)
 have Ny352 := mkA hy352
 clear hy352
 have H' := mkA H
 clear H
 obtain ⟨ad351, A351_2, c351_2, e351, hx351_0, hx351_1, hx351_2, hl351_2, hi351_2⟩ := at0_T27 HR0.out dt_
 cases e351
 have HR351_2 := mkA hi351_2
 have HC351_2 := mkA hl351_2
 clear hi351_2 hl351_2
 have p351 : (0 ≤ (0 : Int)) = True := eq_true (by omega)
 have q351 : (0 < (l0.length : Int)) = True := eq_true dt_
 have qi351 := qn_ q351
 go_enter Try.func82, Try.ntmps82
 go_wp2_with (first | ((with_reducible refine gt_ 17 ?_); refine Kd.R_make (Kd.int .i64) _ 2 rfl (N := 17) rfl 22 _ _ rfl (((rd_T27 l0 0).f2).length : Int) rfl rfl Try.underlying22 (.int .i64 0) 8 info2 rfl (by decide) (by omega) 0 (ok := fun _ => True) (okp := fun _ => True) rfl (fun _ hk => hk) trivial (dt_) (Nat.le_trans (Nat.mul_le_mul_right _ (dt_ : (((rd_T27 l0 0).f2).length : Int).toNat ≤ 35184372088832)) (by omega)) (Below.refl _ _) (Nat.le_refl _) ?_; intro v353 w7 ho8 hb hg_ hnew_; clear hg_ hnew_; (first | rw [← Ny352.out] at ho8 | (simp only [Int.reduceToNat] at ho8; rw [← Ny352.out] at ho8)); have HO354 := mkA (Kd.R_lower ho8 (below_size (bs0_ HB.out))); replace HB := mkA (below_step (bs0_ HB.out) hb); clear hb ho8))
 go_loopg [8] k (fun kq v8 w' => ∃ (x7_1 : List Int) (x8_1 : Int), v8 = .int .i64 x8_1 ∧ Aside0 (spec_l19Uncovered.l0 kq l1 l2 x7_1 x8_1 l0 = some r) ∧ Aside0 (kq ≤ k) ∧ Aside0 (Kd.R (Kd.int .i64) 2 w' w.heap.size (fun _ => True) v353 x7_1) ∧ Aside0 (Below w.heap.size w w'))
 case atStart => exact ⟨(y352), (0), rf_, H', ⟨Nat.le_refl _⟩, ⟨r_ HO354.out⟩, ⟨bs0_ HB.out⟩⟩
 case round =>
  clear H'
  try clear c4 c4b0 c4b1 c5 c5b0 c5b1 c6 c6b0 c6b1
  try clear hx351_0 hx351_1 hx351_2
  try clear p351
  try clear q351
  obtain ⟨x7_1, x8_1, rfl, HA, HK1, HO_7, HB⟩ := hrel
  cases gk with
  | zero => exact absurd HA.out (by simp [spec_l19Uncovered.l0])
  | succ k1 =>
   have H := HA.out
   clear HA
   simp only [spec_l19Uncovered.l0] at H
   by_cases c9 : x8_1 < (l2.length : Int)
   rotate_left
   · rw [if_neg c9] at H
     have c9b0 := decide_eq_false c9
     clear c9
     have H' := mkA H
     clear H
     go_wp2
     go_loopg [11] k1 (fun kq v11 w' => ∃ (x11_2 : Int), v11 = .int .i64 x11_2 ∧ Aside0 (spec_l19Uncovered.l2 kq x7_1 x11_2 l0 = some r) ∧ Aside0 (kq ≤ k1) ∧ Aside0 (Kd.R (Kd.int .i64) 2 w' w.heap.size (fun _ => True) v353 x7_1) ∧ Aside0 (Below w.heap.size w w'))
     case atStart => exact ⟨(0), rf_, H', ⟨Nat.le_refl _⟩, ⟨r_ HO_7.out⟩, ⟨bs0_ HB.out⟩⟩
     case round =>
      clear H'
      try clear c4 c4b0 c4b1 c5 c5b0 c5b1 c6 c6b0 c6b1 c9 c9b0
      try clear hx351_0 hx351_1 hx351_2
      try clear p351
      try clear q351
      obtain ⟨x11_2, rfl, HA, HK2, HO_7, HB⟩ := hrel
      cases gk with
      | zero => exact absurd HA.out (by simp [spec_l19Uncovered.l2])
      | succ k2 =>
       have H := HA.out
       clear HA
       simp only [spec_l19Uncovered.l2] at H
       by_cases c28 : x11_2 < (x7_1.length : Int)
       rotate_left
       · rw [if_neg c28] at H
         have c28b0 := decide_eq_false c28
         clear c28
         obtain rfl := Option.some.inj H
         obtain ⟨Ao37, co37, eo37⟩ := Kd.R_slice HO_7.out
         subst eo37
         go_wp2
         go_ret
         exact ⟨re_, bs0_ HB.out⟩
       rw [if_pos c28] at H
       have c28b0 := decide_eq_true c28
       clear c28
       revert H
       refine ng_ fun c29 => ng_ fun c30 => ng_ fun c31 => ?_
       intro H
       have c29b0 := decide_eq_true c29
       clear c29
       have c30b0 := decide_eq_true c30
       have c30b1 : decide (0 < l0.length) = true := decide_eq_true (by omega)
       clear c30
       have c31b0 := decide_eq_true c31
       clear c31
       by_cases c32 : (rd x7_1 x11_2) = (rd ((rd_T27 l0 0).f2) x11_2)
       rotate_left
       · rw [if_neg c32] at H
         have c32b0 : ((rd x7_1 x11_2) == (rd ((rd_T27 l0 0).f2) x11_2)) = false := beq_eq_false_iff_ne.mpr c32
         have c32b1 : ((rd x7_1 x11_2) != (rd ((rd_T27 l0 0).f2) x11_2)) = true := bne_iff_ne.mpr c32
         obtain rfl := Option.some.inj H
         obtain ⟨Ao35, co35, eo35⟩ := Kd.R_slice HO_7.out
         subst eo35
         try go_wp2
         replace HO_7 := mkA (Kd.R_drew HO_7.out)
         replace HB := mkA (below_drew1 HB.out)
         obtain ⟨ad368, e368, hx368_0⟩ := Kd.at_int (Kd.R_reads' HO_7.out).2.2 x11_2 dt_ dt_
         cases e368
         have p368 : (0 ≤ (x11_2 : Int)) = True := eq_true dt_
         have q368 : (x11_2 < (x7_1.length : Int)) = True := eq_true dt_
         obtain ⟨ad369, A369_2, c369_2, e369, hw369_0, hw369_1, hw369_2, hl369_2, hi369_2⟩ := at0_T27 HR0.out dt_
         obtain rfl : ad351 = ad369 := (by injection e369)
         have HR369_2 := mkA hi369_2
         have HC369_2 := mkA hl369_2
         clear hi369_2 hl369_2
         obtain ⟨hx369_0, hx369_1, hx369_2⟩ := b3_ HB.out hw369_0 hw369_1 hw369_2
         have p369 : (0 ≤ (0 : Int)) = True := eq_true (by omega)
         have q369 : (0 < (l0.length : Int)) = True := eq_true dt_
         have qi369 := qn_ q369
         obtain ⟨ad370, e370, hw370_0⟩ := Kd.at_int HR369_2.out x11_2 dt_ dt_
         cases e370
         have hx370_0 := bc_ HB.out hw370_0
         have p370 : (0 ≤ (x11_2 : Int)) = True := eq_true dt_
         have q370 : (x11_2 < (((rd_T27 l0 0).f2).length : Int)) = True := eq_true dt_
         refine st_ 12 (fun w' => C_ hx368_0 w' ∧ C_ hw369_0 w' ∧ C_ hw369_1 w' ∧ C_ hw369_2 w' ∧ C_ hw370_0 w') [] spec_l19Uncovered.tab13 spec_l19Uncovered.bits13 sp_ fun hHeld HT_ HW_ => ?_
         generalize wr.drew = w36 at HO_7 HB HR369_2 hx368_0 hx369_0 hx369_1 hx369_2 hx370_0 hHeld ⊢
         refine a1_ 0 80 (h := a1_ 1 81 (h := a1_ 2 82 (h := a1_ 4 84 (h := a1_ 5 85 (h := a1_ 6 86 (h := a1_ 8 88 (h := tk_ 3 83 (h := tk_ 7 87 (h := a1_ 9 89 (h := tk_ 10 90 (h := a1_ 11 91 (h := ?_))))))))))))
         refine dn_ ?_
         try go_wp2
         go_ret
         exact ⟨re_, bs0_ HB.out⟩
       rw [if_pos c32] at H
       have c32b0 : ((rd x7_1 x11_2) == (rd ((rd_T27 l0 0).f2) x11_2)) = true := beq_iff_eq.mpr c32
       have c32b1 : ((rd x7_1 x11_2) != (rd ((rd_T27 l0 0).f2) x11_2)) = false := bne_eq_false_iff_eq.mpr c32
       clear c32
       have H' := mkA H
       clear H
       obtain ⟨Ao33, co33, eo33⟩ := Kd.R_slice HO_7.out
       subst eo33
       try go_wp2
       replace HO_7 := mkA (Kd.R_drew HO_7.out)
       replace HB := mkA (below_drew1 HB.out)
       obtain ⟨ad368, e368, hx368_0⟩ := Kd.at_int (Kd.R_reads' HO_7.out).2.2 x11_2 dt_ dt_
       cases e368
       have p368 : (0 ≤ (x11_2 : Int)) = True := eq_true dt_
       have q368 : (x11_2 < (x7_1.length : Int)) = True := eq_true dt_
       obtain ⟨ad369, A369_2, c369_2, e369, hw369_0, hw369_1, hw369_2, hl369_2, hi369_2⟩ := at0_T27 HR0.out dt_
       obtain rfl : ad351 = ad369 := (by injection e369)
       have HR369_2 := mkA hi369_2
       have HC369_2 := mkA hl369_2
       clear hi369_2 hl369_2
       obtain ⟨hx369_0, hx369_1, hx369_2⟩ := b3_ HB.out hw369_0 hw369_1 hw369_2
       have p369 : (0 ≤ (0 : Int)) = True := eq_true (by omega)
       have q369 : (0 < (l0.length : Int)) = True := eq_true dt_
       have qi369 := qn_ q369
       obtain ⟨ad370, e370, hw370_0⟩ := Kd.at_int HR369_2.out x11_2 dt_ dt_
       cases e370
       have hx370_0 := bc_ HB.out hw370_0
       have p370 : (0 ≤ (x11_2 : Int)) = True := eq_true dt_
       have q370 : (x11_2 < (((rd_T27 l0 0).f2).length : Int)) = True := eq_true dt_
       refine st_ 12 (fun w' => C_ hx368_0 w' ∧ C_ hw369_0 w' ∧ C_ hw369_1 w' ∧ C_ hw369_2 w' ∧ C_ hw370_0 w') [] spec_l19Uncovered.tab13 spec_l19Uncovered.bits13 sp_ fun hHeld HT_ HW_ => ?_
       generalize wr.drew = w34 at HO_7 HB HR369_2 hx368_0 hx369_0 hx369_1 hx369_2 hx370_0 hHeld ⊢
       refine a1_ 0 80 (h := a1_ 1 81 (h := a1_ 2 82 (h := a1_ 4 84 (h := a1_ 5 85 (h := a1_ 6 86 (h := a1_ 8 88 (h := tk_ 3 83 (h := tk_ 7 87 (h := a1_ 9 89 (h := tk_ 10 90 (h := a1_ 11 91 (h := ?_))))))))))))
       refine dn_ ?_
       try go_wp2
       go_roundg k2
       case measure => have := HK1.out; have := HK2.out; omega
       case rel => exact ⟨(wrap64 (x11_2 + 1)), rf_, H', ⟨on2_ HK1.out HK2.out⟩, ⟨r_ HO_7.out⟩, ⟨bs0_ HB.out⟩⟩
   rw [if_pos c9] at H
   have c9b0 := decide_eq_true c9
   clear c9
   revert H
   refine ng_ fun c10 => ng_ fun c11 => ng_ fun c12 => ob_ fun t360 A13 => ?_
   intro H
   have c10b0 := decide_eq_true c10
   clear c10
   have c11b0 := decide_eq_true c11
   clear c11
   have c12b0 := decide_eq_true c12
   clear c12
   have H' := mkA H
   clear H
   try go_wp2
   replace HO_7 := mkA (Kd.R_drew HO_7.out)
   replace HB := mkA (below_drew1 HB.out)
   obtain ⟨ad355, e355, hw355_0, hw355_1, hw355_2, hw355_3⟩ := at_T109 HR2.out x8_1 dt_ dt_
   cases e355
   obtain ⟨hx355_0, hx355_1, hx355_2, hx355_3⟩ := b4_ HB.out hw355_0 hw355_1 hw355_2 hw355_3
   have p355 : (0 ≤ (x8_1 : Int)) = True := eq_true dt_
   have q355 : (x8_1 < (l2.length : Int)) = True := eq_true dt_
   obtain ⟨ad356, A356_1, c356_1, e356, hw356_0, hw356_1, hw356_2, hw356_3, hl356_1, hi356_1⟩ := at_T53 HR1.out ((rd_T109 l2 x8_1).f0) dt_ dt_
   cases e356
   have HR356_1 := mkA hi356_1
   have HC356_1 := mkA hl356_1
   clear hi356_1 hl356_1
   obtain ⟨hx356_0, hx356_1, hx356_2, hx356_3⟩ := b4_ HB.out hw356_0 hw356_1 hw356_2 hw356_3
   have p356 : (0 ≤ (((rd_T109 l2 x8_1).f0) : Int)) = True := eq_true dt_
   have q356 : (((rd_T109 l2 x8_1).f0) < (l1.length : Int)) = True := eq_true dt_
   obtain ⟨ad357, e357, hw357_0, hw357_1, hw357_2, hw357_3⟩ := at_T109 HR2.out x8_1 dt_ dt_
   obtain rfl : ad355 = ad357 := (by injection e357)
   obtain ⟨hx357_0, hx357_1, hx357_2, hx357_3⟩ := b4_ HB.out hw357_0 hw357_1 hw357_2 hw357_3
   have p357 : (0 ≤ (x8_1 : Int)) = True := eq_true dt_
   have q357 : (x8_1 < (l2.length : Int)) = True := eq_true dt_
   obtain ⟨ad358, e358, hw358_0, hw358_1, hw358_2, hw358_3⟩ := at_T109 HR2.out x8_1 dt_ dt_
   obtain rfl : ad355 = ad358 := (by injection e358)
   obtain ⟨hx358_0, hx358_1, hx358_2, hx358_3⟩ := b4_ HB.out hw358_0 hw358_1 hw358_2 hw358_3
   have p358 : (0 ≤ (x8_1 : Int)) = True := eq_true dt_
   have q358 : (x8_1 < (l2.length : Int)) = True := eq_true dt_
   obtain ⟨ad359, e359, hw359_0, hw359_1, hw359_2, hw359_3⟩ := at_T109 HR2.out x8_1 dt_ dt_
   obtain rfl : ad355 = ad359 := (by injection e359)
   obtain ⟨hx359_0, hx359_1, hx359_2, hx359_3⟩ := b4_ HB.out hw359_0 hw359_1 hw359_2 hw359_3
   have p359 : (0 ≤ (x8_1 : Int)) = True := eq_true dt_
   have q359 : (x8_1 < (l2.length : Int)) = True := eq_true dt_
   refine st_ 24 (fun w' => C_ hw355_0 w' ∧ C_ hw355_1 w' ∧ C_ hw355_2 w' ∧ C_ hw355_3 w' ∧ C_ hw356_0 w' ∧ C_ hw356_1 w' ∧ C_ hw356_2 w' ∧ C_ hw356_3 w' ∧ C_ hw357_0 w' ∧ C_ hw357_1 w' ∧ C_ hw357_2 w' ∧ C_ hw357_3 w' ∧ C_ hw358_0 w' ∧ C_ hw358_1 w' ∧ C_ hw358_2 w' ∧ C_ hw358_3 w' ∧ C_ hw359_0 w' ∧ C_ hw359_1 w' ∧ C_ hw359_2 w' ∧ C_ hw359_3 w') [] spec_l19Uncovered.tab5 spec_l19Uncovered.bits5 sp_ fun hHeld HT_ HW_ => ?_
   generalize wr.drew = w14 at HO_7 HB HR356_1 hx355_0 hx355_1 hx355_2 hx355_3 hx356_0 hx356_1 hx356_2 hx356_3 hx357_0 hx357_1 hx357_2 hx357_3 hx358_0 hx358_1 hx358_2 hx358_3 hx359_0 hx359_1 hx359_2 hx359_3 hHeld ⊢
   refine a1_ 0 24 (h := a1_ 1 25 (h := a1_ 2 26 (h := a1_ 3 27 (h := a1_ 4 28 (h := a1_ 7 31 (h := a1_ 8 32 (h := a1_ 9 33 (h := a1_ 10 34 (h := a1_ 12 36 (h := a1_ 13 37 (h := a1_ 14 38 (h := a1_ 15 39 (h := a1_ 17 41 (h := a1_ 18 42 (h := a1_ 19 43 (h := a1_ 20 44 (h := tk_ 5 29 (h := a1_ 6 30 (h := tk_ 11 35 (h := tk_ 16 40 (h := tk_ 21 45 (h := ?_))))))))))))))))))))))
   refine on_ 22 46 fun K hK => ?_
   refine go_ Try.func77 #[.pointer (some (ad356.add (((rd_T109 l2 x8_1).f0).toNat * 4))), .int .i64 ((rd_T109 l2 x8_1).f1), .int .i64 ((rd_T109 l2 x8_1).f2), .int .i64 ((rd_T109 l2 x8_1).f3)] ?_
   with_reducible refine (spec_l19Cells.calls k1 _ [rd_T53 l1 ((rd_T109 l2 x8_1).f0)] ((rd_T109 l2 x8_1).f1) ((rd_T109 l2 x8_1).f2) ((rd_T109 l2 x8_1).f3) t360 _ ?side1 A13.out).mono ?_
   (case side1 => refine Go.Proofs.YtakagkflgkoiiaaX.rp_elem (xs := l1) z53 ((rd_T109 l2 x8_1).f0) (of_eq_true p356) (of_eq_true q356) ?_; repeat (first | exact (Kd.C_below HR1.out HB.out) | (with_reducible refine Kd.C_alloc ?_ _) | (with_reducible refine Kd.C_drewN ?_ _) | (with_reducible refine Kd.C_drew ?_)))
   rintro e w15 ⟨v361, rfl, ho0, hb⟩
   refine ⟨_, rfl, ?_⟩
   replace HO_7 := mkA (Kd.R_below (r_ HO_7.out) hb)
   have HO362 := mkA (Kd.R_lower ho0 (below_size (bs0_ HB.out)))
   replace HB := mkA (below_step (bs0_ HB.out) hb)
   (try clear hb)
   (try clear hb2)
   (try clear hk)
   (try clear hi)
   (try clear ho0)
   refine hK.out _ _ sp_ fun hHeld => ?_
   clear hK K
   refine nm_ 46 ?_
   refine a1_ 23 9 (h := ?_)
   refine dn_ ?_
   try go_wp2
   go_loopg [10] k1 (fun kq v10 w' => ∃ (x7_2 : List Int) (x10_2 : Int), v10 = .int .i64 x10_2 ∧ Aside0 (spec_l19Uncovered.l1 kq l1 l2 x7_2 x8_1 t360 x10_2 l0 = some r) ∧ Aside0 (kq ≤ k1) ∧ Aside0 (Kd.R (Kd.int .i64) 2 w' w.heap.size (fun _ => True) v353 x7_2) ∧ Aside0 (Kd.R k105 105 w' w.heap.size (fun _ => True) v361 t360) ∧ Aside0 (Below w.heap.size w w'))
   case atStart => exact ⟨(x7_1), (0), rf_, H', ⟨Nat.le_refl _⟩, ⟨r_ HO_7.out⟩, ⟨r_ HO362.out⟩, ⟨bs0_ HB.out⟩⟩
   case round =>
    clear H'
    try clear c4 c4b0 c4b1 c5 c5b0 c5b1 c6 c6b0 c6b1 c9 c9b0 c10 c10b0 c11 c11b0 c12 c12b0
    try clear hx351_0 hx351_1 hx351_2 hx355_0 hx355_1 hx355_2 hx355_3 hx356_0 hx356_1 hx356_2 hx356_3 hx357_0 hx357_1 hx357_2 hx357_3 hx358_0 hx358_1 hx358_2 hx358_3 hx359_0 hx359_1 hx359_2 hx359_3
    try clear p351 p355 p356 p357 p358 p359
    try clear q351 q355 q356 q357 q358 q359
    obtain ⟨x7_2, x10_2, rfl, HA, HK2, HO_7, HO_9, HB⟩ := hrel
    cases gk with
    | zero => exact absurd HA.out (by simp [spec_l19Uncovered.l1])
    | succ k2 =>
     have H := HA.out
     clear HA
     simp only [spec_l19Uncovered.l1] at H
     by_cases c16 : x10_2 < (t360.length : Int)
     rotate_left
     · rw [if_neg c16] at H
       have c16b0 := decide_eq_false c16
       clear c16
       have H' := mkA H
       clear H
       obtain ⟨Ao27, co27, eo27⟩ := Kd.R_slice HO_9.out
       subst eo27
       go_wp2
       go_roundg k2
       case measure => have := HK1.out; have := HK2.out; omega
       case rel => exact ⟨(x7_2), (wrap64 (x8_1 + 1)), rf_, H', ⟨on2_ HK1.out HK2.out⟩, ⟨r_ HO_7.out⟩, ⟨bs0_ HB.out⟩⟩
     rw [if_pos c16] at H
     have c16b0 := decide_eq_true c16
     clear c16
     revert H
     refine ng_ fun c17 => ng_ fun c18 => ?_
     intro H
     have c17b0 := decide_eq_true c17
     clear c17
     have c18b0 := decide_eq_true c18
     have c18b1 : decide (0 < l0.length) = true := decide_eq_true (by omega)
     clear c18
     obtain ⟨ji19, hji19⟩ : ∃ j_ : Int, (wrap64 ((wrap64 (((rd_T105 t360 x10_2).f1) * ((rd_T27 l0 0).f0))) + ((rd_T105 t360 x10_2).f0))) = j_ := ⟨_, rfl⟩
     replace H : (if 0 ≤ (ji19) then (if (ji19) < (x7_2.length : Int) then (spec_l19Uncovered.l1 k2 l1 l2 (x7_2.set ((ji19) : Int).toNat (wrap64 ((rd x7_2 (ji19)) + 1))) x8_1 t360 (wrap64 (x10_2 + 1)) l0) else (none)) else (none)) = some r := by first | (rw [hji19] at H; exact H) | (simp only [hji19] at H ⊢; exact H)
     have hji19w : (IntKind.i64.wrap ((wrap64 (((rd_T105 t360 x10_2).f1) * ((rd_T27 l0 0).f0))) + ((rd_T105 t360 x10_2).f0))) = ji19 := (i64_w _).trans hji19
     revert H
     refine ng_ fun c20 => ng_ fun c21 => ?_
     intro H
     have c20b0 := decide_eq_true c20
     clear c20
     have c21b0 := decide_eq_true c21
     clear c21
     obtain ⟨y367, hy367⟩ := gy_ (x7_2.set ((ji19) : Int).toNat (wrap64 ((rd x7_2 (ji19)) + 1)) : List Int)
     rw [← hy367] at H
     (try with_reducible replace H := bso_ H)
     have Ny367 := mkA hy367
     clear hy367
     have H' := mkA H
     clear H
     obtain ⟨Ao23, co23, eo23⟩ := Kd.R_slice HO_9.out
     subst eo23
     try go_wp2
     replace HO_7 := mkA (Kd.R_drew HO_7.out)
     replace HO_9 := mkA (Kd.R_drew HO_9.out)
     replace HB := mkA (below_drew1 HB.out)
     obtain ⟨ad363, e363, hx363_0, hx363_1⟩ := at_T105 (Kd.R_reads' HO_9.out).2.2 x10_2 dt_ dt_
     cases e363
     have p363 : (0 ≤ (x10_2 : Int)) = True := eq_true dt_
     have q363 : (x10_2 < (t360.length : Int)) = True := eq_true dt_
     obtain ⟨ad364, A364_2, c364_2, e364, hw364_0, hw364_1, hw364_2, hl364_2, hi364_2⟩ := at0_T27 HR0.out dt_
     obtain rfl : ad351 = ad364 := (by injection e364)
     have HR364_2 := mkA hi364_2
     have HC364_2 := mkA hl364_2
     clear hi364_2 hl364_2
     obtain ⟨hx364_0, hx364_1, hx364_2⟩ := b3_ HB.out hw364_0 hw364_1 hw364_2
     have p364 : (0 ≤ (0 : Int)) = True := eq_true (by omega)
     have q364 : (0 < (l0.length : Int)) = True := eq_true dt_
     have qi364 := qn_ q364
     obtain ⟨ad365, e365, hx365_0, hx365_1⟩ := at_T105 (Kd.R_reads' HO_9.out).2.2 x10_2 dt_ dt_
     obtain rfl : ad363 = ad365 := (by injection e365)
     have p365 : (0 ≤ (x10_2 : Int)) = True := eq_true dt_
     have q365 : (x10_2 < (t360.length : Int)) = True := eq_true dt_
     obtain ⟨Ao25, co25, eo25⟩ := Kd.R_slice HO_7.out
     (first | subst eo25 | (injection eo25 with f1_ f2_ f3_; have f4_ := f1_.symm; have f5_ := f3_.symm; clear f1_ f2_ f3_; subst f4_; subst f5_))
     obtain ⟨ad366, e366, hx366_0⟩ := Kd.at_int (Kd.R_reads' HO_7.out).2.2 (ji19) dt_ dt_
     cases e366
     have p366 : (0 ≤ ((ji19) : Int)) = True := eq_true dt_
     have q366 : ((ji19) < (x7_2.length : Int)) = True := eq_true dt_
     have p22 : 0 ≤ ((ji19) : Int) := dt_
     have q22 : ((ji19) : Int) < ((x7_2.length : Int) : Int) := dt_
     obtain ⟨go22, co22, eo22, gb22, gl22, cl22, HG22⟩ := Kd.R_form HO_7.out (by omega)
     (first | cases eo22 | (injection eo22 with ea_ en_ ec_; (first | subst ea_ | (injection ea_ with ea_; subst ea_)); subst ec_; clear en_))
     have GB22 := mkA gb22
     have GG22 := mkA HG22
     clear gb22 gl22 HG22
     (first | simp only [add_plain] at hx366_0 | skip)
     obtain ⟨hx22_0, hf22_0⟩ := Kd.R_celln 0 HO_7.out ((ji19) : Int) p22 q22
     replace p22 := eq_true p22
     replace q22 := eq_true q22
     have HP26 := Kd.R_putn HO_7.out ((ji19) : Int) (wrap64 ((rd x7_2 (ji19)) + 1))
     rw [← Ny367.out] at HP26
     have HQ26 := mkA HP26
     clear HP26
     refine st_ 22 (fun w' => C_ hx363_0 w' ∧ C_ hx363_1 w' ∧ C_ hw364_0 w' ∧ C_ hw364_1 w' ∧ C_ hw364_2 w' ∧ C_ hx365_0 w' ∧ C_ hx365_1 w' ∧ C_ hx366_0 w') [21] spec_l19Uncovered.tab9 spec_l19Uncovered.bits9 sp_ fun hHeld HT_ HW_ => ?_
     generalize wr.drew = w24 at HO_7 HO_9 HB GG22 HQ26 HR364_2 hf22_0 hx22_0 hx363_0 hx363_1 hx364_0 hx364_1 hx364_2 hx365_0 hx365_1 hx366_0 hHeld ⊢
     refine a1_ 0 53 (h := a1_ 1 54 (h := a1_ 2 55 (h := a1_ 3 56 (h := a1_ 4 57 (h := a1_ 6 59 (h := a1_ 7 60 (h := a1_ 8 61 (h := a1_ 11 64 (h := a1_ 12 65 (h := a1_ 13 66 (h := a1_ 14 67 (h := tk_ 5 58 (h := tk_ 9 62 (h := a1_ 10 63 (h := tk_ 15 68 (h := a1_ 16 69 (h := a1_ 17 70 (h := tk_ 18 71 (h := a1_ 19 72 (h := a1_ 20 73 (h := ?_)))))))))))))))))))))
     refine last_ (i := 21) (N := none) (fA 22 4194303) rfl rfl (one_of HT_.out (by kernel_rfl)) (by decide) (fun K hK => ?_)
     refine skip_ (w1 := ?_) (by rfl) rfl ?_ ?_
     rotate_left
     · go_simp
       rfl
     refine hK.out _ _ ?_
     clear hK K
     refine dn_ ?_
     try go_wp2
     go_roundg k2
     case measure => have := HK1.out; have := HK2.out; omega
     case rel => exact ⟨(y367), (wrap64 (x10_2 + 1)), rf_, H', ⟨on2_ HK1.out HK2.out⟩, ⟨r_ HQ26.out⟩, ⟨by refine r_ ?_; exact Kd.R_mono (Kd.R_far (p := ⟨go22, ((ji19) : Int).toNat, none⟩) (Kd.R_types HO_9.out GG22.out (by decide)) (fun _ hk => hk.2) (.int .i64 (wrap64 ((rd x7_2 (ji19)) + 1)))) (fun _ hk => trivial)⟩, ⟨by repeat (first | (with_reducible first | exact HB.out | apply below_alloc | apply pw_below_drewN | apply below_drew1 | refine below_set ?_ GB22.out) | exact HB.out)⟩⟩
end Go.Proofs.Ytakagkflgkoiiaa.GFnExactFirstUncovered
