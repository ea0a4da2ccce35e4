-- Written by the session's own program (gen.py) out of the translation's print. Lean checks it.
import Derived.Test.YtakagkflgkoiiaaQ
import Derived.Test.YtakagkflgkoiiaaGFnExactIsCoverx0
import Derived.Test.YtakagkflgkoiiaaGFnExactIsCoverx13
namespace Go.Proofs.Ytakagkflgkoiiaa.GFnExactIsCover
open Go.RowKit Go.Proofs.YtakagkflgkoiiaaW.PrintWords Go.Proofs.YtakagkflgkoiiaaW.PrintLast Go.Proofs.YtakagkflgkoiiaaW.PrintMore
open List renaming setIfInBounds_toArray → sA, set_cons_zero → sB, set_cons_succ → sC
open Go.Proofs.YtakagkflgkoiiaaW.PrintWords.Aside0 renaming mk → mkA
open Go.Proofs.YtakagkflgkoiiaaX (dt_ bc_ p0_ p1_ bl_ cb_ bs0_ bs1_ bs2_ bs3_ bs4_ bs5_ bs6_ bs7_ bs8_ bs9_ bs10_ bs11_ bs12_)
open Go.Proofs.YtakagkflgkoiiaaQ
attribute [local go_sem] max2_int min2_int max_two min_two max_three min_three max_four min_four 
set_option linter.unusedVariables false
set_option linter.unusedSimpArgs false

/-! ### spec_l19Uncovered: function 82 -/
mutual
def spec_l19Uncovered.l0 : Nat → List (S53) → List (S109) → List Int → Int → List (S27) → Option (Int)
  | 0, _, _, _, _, _ => none
  | k + 1, x1, x2, x7, x8, x960 => if x8 < (x2.length : Int) then (if 0 ≤ x8 then (if 0 ≤ ((rd_T109 x2 x8).f0) then (if ((rd_T109 x2 x8).f0) < (x1.length : Int) then ((spec_l19Cells.f k [rd_T53 x1 ((rd_T109 x2 x8).f0)] ((rd_T109 x2 x8).f1) ((rd_T109 x2 x8).f2) ((rd_T109 x2 x8).f3)).bind fun t377 => (spec_l19Uncovered.l1 k x1 x2 x7 x8 t377 0 x960)) else (none)) else (none)) else (none)) else (spec_l19Uncovered.l2 k x7 0 x960)
def spec_l19Uncovered.l1 : Nat → List (S53) → List (S109) → List Int → Int → List (S105) → Int → List (S27) → Option (Int)
  | 0, _, _, _, _, _, _, _ => none
  | k + 1, x1, x2, x7, x8, x9, x10, x960 => if x10 < (x9.length : Int) then (if 0 ≤ x10 then (if 0 < (x960.length : Int) then (if 0 ≤ (wrap64 ((wrap64 (((rd_T105 x9 x10).f1) * ((rd_T27 x960 0).f0))) + ((rd_T105 x9 x10).f0))) then (if (wrap64 ((wrap64 (((rd_T105 x9 x10).f1) * ((rd_T27 x960 0).f0))) + ((rd_T105 x9 x10).f0))) < (x7.length : Int) then (spec_l19Uncovered.l1 k x1 x2 (x7.set ((wrap64 ((wrap64 (((rd_T105 x9 x10).f1) * ((rd_T27 x960 0).f0))) + ((rd_T105 x9 x10).f0))) : Int).toNat (wrap64 ((rd x7 (wrap64 ((wrap64 (((rd_T105 x9 x10).f1) * ((rd_T27 x960 0).f0))) + ((rd_T105 x9 x10).f0)))) + 1))) x8 x9 (wrap64 (x10 + 1)) x960) else (none)) else (none)) else (none)) else (none)) else (spec_l19Uncovered.l0 k x1 x2 x7 (wrap64 (x8 + 1)) x960)
def spec_l19Uncovered.l2 : Nat → List Int → Int → List (S27) → Option (Int)
  | 0, _, _, _ => none
  | k + 1, x7, x11, x960 => if x11 < (x7.length : Int) then (if 0 ≤ x11 then (if 0 < (x960.length : Int) then (if x11 < (((rd_T27 x960 0).f2).length : Int) then (if (rd x7 x11) = (rd ((rd_T27 x960 0).f2) x11) then (spec_l19Uncovered.l2 k x7 (wrap64 (x11 + 1)) x960) else (some x11)) else (none)) else (none)) else (none)) else (some (-1))
end
def spec_l19Uncovered.f (k : Nat) (l0 : List (S27)) (l1 : List (S53)) (l2 : List (S109)) : Option (Int) := if 0 < (l0.length : Int) then (if 0 ≤ (((rd_T27 l0 0).f2).length : Int) then (if ((((rd_T27 l0 0).f2).length : Int) : Int).toNat ≤ 35184372088832 then (spec_l19Uncovered.l0 k l1 l2 (List.replicate ((((rd_T27 l0 0).f2).length : Int) : Int).toNat 0) 0 l0) else (none)) else (none)) else (none)
def spec_l19Uncovered.T5 : Bool × List (List Nat × List Nat) := (true, [([], []), ([], []), ([], []), ([1, 2], [1, 2]), ([3], [3]), ([4], [4]), ([0, 5], [0, 5]), ([], []), ([], []), ([7, 8], [7, 8]), ([9], [9]), ([10], [10]), ([], []), ([], []), ([12, 13], [12, 13]), ([14], [14]), ([15], [15]), ([], []), ([], []), ([17, 18], [17, 18]), ([19], [19]), ([20], [20]), ([6, 11, 16, 21], [6, 11, 16, 21]), ([22, 22, 0, 1, 2, 3, 4, 5, 6, 7, 8, 9, 10, 11, 12, 13, 14, 15, 16, 17, 18, 19, 20, 21, 22], [22])])
def spec_l19Uncovered.B5 : List Nat := [0, 0, 0, 6, 14, 30, 63, 0, 0, 384, 896, 1920, 0, 0, 12288, 28672, 61440, 0, 0, 393216, 917504, 1966080, 4194303, 8388607]
theorem spec_l19Uncovered.tab5 : rtab .any (opsOf Try.f82 5) = spec_l19Uncovered.T5 := by kernel_rfl
theorem spec_l19Uncovered.bits5 : waitsOk spec_l19Uncovered.T5.2 spec_l19Uncovered.B5 = true := by kernel_rfl
def spec_l19Uncovered.T9 : Bool × List (List Nat × List Nat) := (true, [([], []), ([], []), ([], []), ([1, 2], [1, 2]), ([3], [3]), ([4], [4]), ([], []), ([6], [6]), ([7], [7]), ([8], [8]), ([5, 9], [5, 9]), ([], []), ([], []), ([11, 12], [11, 12]), ([13], [13]), ([14], [14]), ([10, 15], [10, 15]), ([0, 16], [0, 16]), ([17], [17]), ([18], [18]), ([0, 16, 0, 1, 2, 3, 4, 5, 6, 7, 8, 9, 10, 11, 12, 13, 14, 15, 16, 17, 18, 19], [0, 16]), ([20, 19, 0, 1, 2, 3, 4, 5, 6, 7, 8, 9, 10, 11, 12, 13, 14, 15, 16, 17, 18, 19], [19, 20])])
def spec_l19Uncovered.B9 : List Nat := [0, 0, 0, 6, 14, 30, 0, 64, 192, 448, 1022, 0, 0, 6144, 14336, 30720, 65534, 131071, 262143, 524287, 1048575, 2097151]
theorem spec_l19Uncovered.tab9 : rtab .any (opsOf Try.f82 9) = spec_l19Uncovered.T9 := by kernel_rfl
theorem spec_l19Uncovered.bits9 : waitsOk spec_l19Uncovered.T9.2 spec_l19Uncovered.B9 = true := by kernel_rfl
def spec_l19Uncovered.T13 : Bool × List (List Nat × List Nat) := (true, [([], []), ([], []), ([0, 1], [0, 1]), ([2], [2]), ([], []), ([4], [4]), ([5], [5]), ([6], [6]), ([], []), ([7, 8], [7, 8]), ([9], [9]), ([3, 10], [3, 10])])
def spec_l19Uncovered.B13 : List Nat := [0, 0, 3, 7, 0, 16, 48, 112, 0, 496, 1008, 2047]
theorem spec_l19Uncovered.tab13 : rtab .any (opsOf Try.f82 13) = spec_l19Uncovered.T13 := by kernel_rfl
theorem spec_l19Uncovered.bits13 : waitsOk spec_l19Uncovered.T13.2 spec_l19Uncovered.B13 = true := by kernel_rfl
set_option maxHeartbeats 8000000 in
set_option maxRecDepth 100000 in
theorem spec_l19Uncovered.calls (k : Nat) (A0 : Option Addr) (l0 : List (S27)) (A1 : Option Addr) (c1 : Nat) (l1 : List (S53)) (A2 : Option Addr) (c2 : Nat) (l2 : List (S109)) (r : Int) (w : World) (hr0 : Kd.C k27 w A0 l0.length l0) (hr1 : Kd.C k53 w A1 l1.length l1) (hc1 : l1.length ≤ c1) (hr2 : Kd.C k109 w A2 l2.length l2) (hc2 : l2.length ≤ c2) (h : spec_l19Uncovered.f k l0 l1 l2 = some r) :
 Calls Try.prog 82 #[.pointer A0, .slice A1 l1.length c1, .slice A2 l2.length c2] w fun e w' => e = .returned (.int .i64 r) ∧ Below w.heap.size w w' := by
 have HR0 := mkA hr0
 clear hr0
 have HR1 := mkA hr1
 have HC1 := mkA hc1
 clear hr1 hc1
 have HR2 := mkA hr2
 have HC2 := mkA hc2
 clear hr2 hc2
 have HB := mkA (Below.refl w.heap.size w)
 unfold spec_l19Uncovered.f at h
 have H := h
 clear h
 revert H
 refine ng_ fun c4 => ng_ fun c5 => ng_ fun c6 => ?_
 intro H
 have c4b0 := decide_eq_true c4
 have c4b1 : decide (0 < l0.length) = true := decide_eq_true (by omega)
 clear c4
 have c5b0 := eq_true c5
 have c5b1 := decide_eq_true c5
 clear c5
 have c6b0 := eq_true c6
 have c6b1 := decide_eq_true c6
 clear c6
 obtain ⟨y369, hy369⟩ := gy_ (List.replicate ((((rd_T27 l0 0).f2).length : Int) : Int).toNat 0 : List Int)
 rw [← hy369] at H
 (try with_reducible replace H := bso_ H)
 have Ny369 := mkA hy369
 clear hy369
 have H' := mkA H
 clear H
 obtain ⟨ad368, A368_2, c368_2, e368, hx368_0, hx368_1, hx368_2, hl368_2, hi368_2⟩ := at0_T27 HR0.out dt_
 cases e368
 have HR368_2 := mkA hi368_2
 have HC368_2 := mkA hl368_2
 clear hi368_2 hl368_2
 have p368 : (0 ≤ (0 : Int)) = True := eq_true (by omega)
 have q368 : (0 < (l0.length : Int)) = True := eq_true dt_
 have qi368 := qn_ q368
 go_enter Try.func82, Try.ntmps82
 go_wp2_with (first | ((with_reducible refine gt_ 17 ?_); refine Kd.R_make (Kd.int .i64) _ 2 rfl (N := 17) rfl 22 _ _ rfl (((rd_T27 l0 0).f2).length : Int) rfl rfl Try.underlying22 (.int .i64 0) 8 info2 rfl (by decide) (by omega) 0 (ok := fun _ => True) (okp := fun _ => True) rfl (fun _ hk => hk) trivial (dt_) (Nat.le_trans (Nat.mul_le_mul_right _ (dt_ : (((rd_T27 l0 0).f2).length : Int).toNat ≤ 35184372088832)) (by omega)) (Below.refl _ _) (Nat.le_refl _) ?_; intro v370 w7 ho8 hb hg_ hnew_; clear hg_ hnew_; (first | rw [← Ny369.out] at ho8 | (simp only [Int.reduceToNat] at ho8; rw [← Ny369.out] at ho8)); have HO371 := mkA (Kd.R_lower ho8 (below_size (bs0_ HB.out))); replace HB := mkA (below_step (bs0_ HB.out) hb); clear hb ho8))
 go_loopg [8] k (fun kq v8 w' => ∃ (x7_1 : List Int) (x8_1 : Int), v8 = .int .i64 x8_1 ∧ Aside0 (spec_l19Uncovered.l0 kq l1 l2 x7_1 x8_1 l0 = some r) ∧ Aside0 (kq ≤ k) ∧ Aside0 (Kd.R (Kd.int .i64) 2 w' w.heap.size (fun _ => True) v370 x7_1) ∧ Aside0 (Below w.heap.size w w'))
 case atStart => exact ⟨(y369), (0), rf_, H', ⟨Nat.le_refl _⟩, ⟨r_ HO371.out⟩, ⟨bs0_ HB.out⟩⟩
 case round =>
  clear H'
  try clear c4 c4b0 c4b1 c5 c5b0 c5b1 c6 c6b0 c6b1
  try clear hx368_0 hx368_1 hx368_2
  try clear p368
  try clear q368
  obtain ⟨x7_1, x8_1, rfl, HA, HK1, HO_7, HB⟩ := hrel
  cases gk with
  | zero => exact absurd HA.out (by simp [spec_l19Uncovered.l0])
  | succ k1 =>
   have H := HA.out
   clear HA
   simp only [spec_l19Uncovered.l0] at H
   by_cases c9 : x8_1 < (l2.length : Int)
   rotate_left
   · rw [if_neg c9] at H
     have c9b0 := decide_eq_false c9
     clear c9
     have H' := mkA H
     clear H
     go_wp2
     go_loopg [11] k1 (fun kq v11 w' => ∃ (x11_2 : Int), v11 = .int .i64 x11_2 ∧ Aside0 (spec_l19Uncovered.l2 kq x7_1 x11_2 l0 = some r) ∧ Aside0 (kq ≤ k1) ∧ Aside0 (Kd.R (Kd.int .i64) 2 w' w.heap.size (fun _ => True) v370 x7_1) ∧ Aside0 (Below w.heap.size w w'))
     case atStart => exact ⟨(0), rf_, H', ⟨Nat.le_refl _⟩, ⟨r_ HO_7.out⟩, ⟨bs0_ HB.out⟩⟩
     case round =>
      clear H'
      try clear c4 c4b0 c4b1 c5 c5b0 c5b1 c6 c6b0 c6b1 c9 c9b0
      try clear hx368_0 hx368_1 hx368_2
      try clear p368
      try clear q368
      obtain ⟨x11_2, rfl, HA, HK2, HO_7, HB⟩ := hrel
      cases gk with
      | zero => exact absurd HA.out (by simp [spec_l19Uncovered.l2])
      | succ k2 =>
       have H := HA.out
       clear HA
       simp only [spec_l19Uncovered.l2] at H
       by_cases c28 : x11_2 < (x7_1.length : Int)
       rotate_left
       · rw [if_neg c28] at H
         have c28b0 := decide_eq_false c28
         clear c28
         obtain rfl := Option.some.inj H
         obtain ⟨Ao37, co37, eo37⟩ := Kd.R_slice HO_7.out
         subst eo37
         go_wp2
         go_ret
         exact ⟨re_, bs0_ HB.out⟩
       rw [if_pos c28] at H
       have c28b0 := decide_eq_true c28
       clear c28
       revert H
       refine ng_ fun c29 => ng_ fun c30 => ng_ fun c31 => ?_
       intro H
       have c29b0 := decide_eq_true c29
       clear c29
       have c30b0 := decide_eq_true c30
       have c30b1 : decide (0 < l0.length) = true := decide_eq_true (by omega)
       clear c30
       have c31b0 := decide_eq_true c31
       clear c31
       by_cases c32 : (rd x7_1 x11_2) = (rd ((rd_T27 l0 0).f2) x11_2)
       rotate_left
       · rw [if_neg c32] at H
         have c32b0 : ((rd x7_1 x11_2) == (rd ((rd_T27 l0 0).f2) x11_2)) = false := beq_eq_false_iff_ne.mpr c32
         have c32b1 : ((rd x7_1 x11_2) != (rd ((rd_T27 l0 0).f2) x11_2)) = true := bne_iff_ne.mpr c32
         obtain rfl := Option.some.inj H
         obtain ⟨Ao35, co35, eo35⟩ := Kd.R_slice HO_7.out
         subst eo35
         try go_wp2
         replace HO_7 := mkA (Kd.R_drew HO_7.out)
         replace HB := mkA (below_drew1 HB.out)
         obtain ⟨ad385, e385, hx385_0⟩ := Kd.at_int (Kd.R_reads' HO_7.out).2.2 x11_2 dt_ dt_
         cases e385
         have p385 : (0 ≤ (x11_2 : Int)) = True := eq_true dt_
         have q385 : (x11_2 < (x7_1.length : Int)) = True := eq_true dt_
         obtain ⟨ad386, A386_2, c386_2, e386, hw386_0, hw386_1, hw386_2, hl386_2, hi386_2⟩ := at0_T27 HR0.out dt_
         obtain rfl : ad368 = ad386 := (by injection e386)
         have HR386_2 := mkA hi386_2
         have HC386_2 := mkA hl386_2
         clear hi386_2 hl386_2
         obtain ⟨hx386_0, hx386_1, hx386_2⟩ := b3_ HB.out hw386_0 hw386_1 hw386_2
         have p386 : (0 ≤ (0 : Int)) = True := eq_true (by omega)
         have q386 : (0 < (l0.length : Int)) = True := eq_true dt_
         have qi386 := qn_ q386
         obtain ⟨ad387, e387, hw387_0⟩ := Kd.at_int HR386_2.out x11_2 dt_ dt_
         cases e387
         have hx387_0 := bc_ HB.out hw387_0
         have p387 : (0 ≤ (x11_2 : Int)) = True := eq_true dt_
         have q387 : (x11_2 < (((rd_T27 l0 0).f2).length : Int)) = True := eq_true dt_
         refine st_ 12 (fun w' => C_ hx385_0 w' ∧ C_ hw386_0 w' ∧ C_ hw386_1 w' ∧ C_ hw386_2 w' ∧ C_ hw387_0 w') [] spec_l19Uncovered.tab13 spec_l19Uncovered.bits13 sp_ fun hHeld HT_ HW_ => ?_
         generalize wr.drew = w36 at HO_7 HB HR386_2 hx385_0 hx386_0 hx386_1 hx386_2 hx387_0 hHeld ⊢
         refine a1_ 0 80 (h := a1_ 1 81 (h := a1_ 2 82 (h := a1_ 4 84 (h := a1_ 5 85 (h := a1_ 6 86 (h := a1_ 8 88 (h := tk_ 3 83 (h := tk_ 7 87 (h := a1_ 9 89 (h := tk_ 10 90 (h := a1_ 11 91 (h := ?_))))))))))))
         refine dn_ ?_
         try go_wp2
         go_ret
         exact ⟨re_, bs0_ HB.out⟩
       rw [if_pos c32] at H
       have c32b0 : ((rd x7_1 x11_2) == (rd ((rd_T27 l0 0).f2) x11_2)) = true := beq_iff_eq.mpr c32
       have c32b1 : ((rd x7_1 x11_2) != (rd ((rd_T27 l0 0).f2) x11_2)) = false := bne_eq_false_iff_eq.mpr c32
       clear c32
       have H' := mkA H
       clear H
       obtain ⟨Ao33, co33, eo33⟩ := Kd.R_slice HO_7.out
       subst eo33
       try go_wp2
       replace HO_7 := mkA (Kd.R_drew HO_7.out)
       replace HB := mkA (below_drew1 HB.out)
       obtain ⟨ad385, e385, hx385_0⟩ := Kd.at_int (Kd.R_reads' HO_7.out).2.2 x11_2 dt_ dt_
       cases e385
       have p385 : (0 ≤ (x11_2 : Int)) = True := eq_true dt_
       have q385 : (x11_2 < (x7_1.length : Int)) = True := eq_true dt_
       obtain ⟨ad386, A386_2, c386_2, e386, hw386_0, hw386_1, hw386_2, hl386_2, hi386_2⟩ := at0_T27 HR0.out dt_
       obtain rfl : ad368 = ad386 := (by injection e386)
       have HR386_2 := mkA hi386_2
       have HC386_2 := mkA hl386_2
       clear hi386_2 hl386_2
       obtain ⟨hx386_0, hx386_1, hx386_2⟩ := b3_ HB.out hw386_0 hw386_1 hw386_2
       have p386 : (0 ≤ (0 : Int)) = True := eq_true (by omega)
       have q386 : (0 < (l0.length : Int)) = True := eq_true dt_
       have qi386 := qn_ q386
       obtain ⟨ad387, e387, hw387_0⟩ := Kd.at_int HR386_2.out x11_2 dt_ dt_
       cases e387
       have hx387_0 := bc_ HB.out hw387_0
       have p387 : (0 ≤ (x11_2 : Int)) = True := eq_true dt_
       have q387 : (x11_2 < (((rd_T27 l0 0).f2).length : Int)) = True := eq_true dt_
       refine st_ 12 (fun w' => C_ hx385_0 w' ∧ C_ hw386_0 w' ∧ C_ hw386_1 w' ∧ C_ hw386_2 w' ∧ C_ hw387_0 w') [] spec_l19Uncovered.tab13 spec_l19Uncovered.bits13 sp_ fun hHeld HT_ HW_ => ?_
       generalize wr.drew = w34 at HO_7 HB HR386_2 hx385_0 hx386_0 hx386_1 hx386_2 hx387_0 hHeld ⊢
       refine a1_ 0 80 (h := a1_ 1 81 (h := a1_ 2 82 (h := a1_ 4 84 (h := a1_ 5 85 (h := a1_ 6 86 (h := a1_ 8 88 (h := tk_ 3 83 (h := tk_ 7 87 (h := a1_ 9 89 (h := tk_ 10 90 (h := a1_ 11 91 (h := ?_))))))))))))
       refine dn_ ?_
       try go_wp2
       go_roundg k2
       case measure => have := HK1.out; have := HK2.out; omega
       case rel => exact ⟨(wrap64 (x11_2 + 1)), rf_, H', ⟨on2_ HK1.out HK2.out⟩, ⟨r_ HO_7.out⟩, ⟨bs0_ HB.out⟩⟩
   rw [if_pos c9] at H
   have c9b0 := decide_eq_true c9
   clear c9
   revert H
   refine ng_ fun c10 => ng_ fun c11 => ng_ fun c12 => ob_ fun t377 A13 => ?_
   intro H
   have c10b0 := decide_eq_true c10
   clear c10
   have c11b0 := decide_eq_true c11
   clear c11
   have c12b0 := decide_eq_true c12
   clear c12
   have H' := mkA H
   clear H
   try go_wp2
   replace HO_7 := mkA (Kd.R_drew HO_7.out)
   replace HB := mkA (below_drew1 HB.out)
   obtain ⟨ad372, e372, hw372_0, hw372_1, hw372_2, hw372_3⟩ := at_T109 HR2.out x8_1 dt_ dt_
   cases e372
   obtain ⟨hx372_0, hx372_1, hx372_2, hx372_3⟩ := b4_ HB.out hw372_0 hw372_1 hw372_2 hw372_3
   have p372 : (0 ≤ (x8_1 : Int)) = True := eq_true dt_
   have q372 : (x8_1 < (l2.length : Int)) = True := eq_true dt_
   obtain ⟨ad373, A373_1, c373_1, e373, hw373_0, hw373_1, hw373_2, hw373_3, hl373_1, hi373_1⟩ := at_T53 HR1.out ((rd_T109 l2 x8_1).f0) dt_ dt_
   cases e373
   have HR373_1 := mkA hi373_1
   have HC373_1 := mkA hl373_1
   clear hi373_1 hl373_1
   obtain ⟨hx373_0, hx373_1, hx373_2, hx373_3⟩ := b4_ HB.out hw373_0 hw373_1 hw373_2 hw373_3
   have p373 : (0 ≤ (((rd_T109 l2 x8_1).f0) : Int)) = True := eq_true dt_
   have q373 : (((rd_T109 l2 x8_1).f0) < (l1.length : Int)) = True := eq_true dt_
   obtain ⟨ad374, e374, hw374_0, hw374_1, hw374_2, hw374_3⟩ := at_T109 HR2.out x8_1 dt_ dt_
   obtain rfl : ad372 = ad374 := (by injection e374)
   obtain ⟨hx374_0, hx374_1, hx374_2, hx374_3⟩ := b4_ HB.out hw374_0 hw374_1 hw374_2 hw374_3
   have p374 : (0 ≤ (x8_1 : Int)) = True := eq_true dt_
   have q374 : (x8_1 < (l2.length : Int)) = True := eq_true dt_
   obtain ⟨ad375, e375, hw375_0, hw375_1, hw375_2, hw375_3⟩ := at_T109 HR2.out x8_1 dt_ dt_
   obtain rfl : ad372 = ad375 := (by injection e375)
   obtain ⟨hx375_0, hx375_1, hx375_2, hx375_3⟩ := b4_ HB.out hw375_0 hw375_1 hw375_2 hw375_3
   have p375 : (0 ≤ (x8_1 : Int)) = True := eq_true dt_
   have q375 : (x8_1 < (l2.length : Int)) = True := eq_true dt_
   obtain ⟨ad376, e376, hw376_0, hw376_1, hw376_2, hw376_3⟩ := at_T109 HR2.out x8_1 dt_ dt_
   obtain rfl : ad372 = ad376 := (by injection e376)
   obtain ⟨hx376_0, hx376_1, hx376_2, hx376_3⟩ := b4_ HB.out hw376_0 hw376_1 hw376_2 hw376_3
   have p376 : (0 ≤ (x8_1 : Int)) = True := eq_true dt_
   have q376 : (x8_1 < (l2.length : Int)) = True := eq_true dt_
   refine st_ 24 (fun w' => C_ hw372_0 w' ∧ C_ hw372_1 w' ∧ C_ hw372_2 w' ∧ C_ hw372_3 w' ∧ C_ hw373_0 w' ∧ C_ hw373_1 w' ∧ C_ hw373_2 w' ∧ C_ hw373_3 w' ∧ C_ hw374_0 w' ∧ C_ hw374_1 w' ∧ C_ hw374_2 w' ∧ C_ hw374_3 w' ∧ C_ hw375_0 w' ∧ C_ hw375_1 w' ∧ C_ hw375_2 w' ∧ C_ hw375_3 w' ∧ C_ hw376_0 w' ∧ C_ hw376_1 w' ∧ C_ hw376_2 w' ∧ C_ hw376_3 w') [] spec_l19Uncovered.tab5 spec_l19Uncovered.bits5 sp_ fun hHeld HT_ HW_ => ?_
   generalize wr.drew = w14 at HO_7 HB HR373_1 hx372_0 hx372_1 hx372_2 hx372_3 hx373_0 hx373_1 hx373_2 hx373_3 hx374_0 hx374_1 hx374_2 hx374_3 hx375_0 hx375_1 hx375_2 hx375_3 hx376_0 hx376_1 hx376_2 hx376_3 hHeld ⊢
   refine a1_ 0 24 (h := a1_ 1 25 (h := a1_ 2 26 (h := a1_ 3 27 (h := a1_ 4 28 (h := a1_ 7 31 (h := a1_ 8 32 (h := a1_ 9 33 (h := a1_ 10 34 (h := a1_ 12 36 (h := a1_ 13 37 (h := a1_ 14 38 (h := a1_ 15 39 (h := a1_ 17 41 (h := a1_ 18 42 (h := a1_ 19 43 (h := a1_ 20 44 (h := tk_ 5 29 (h := a1_ 6 30 (h := tk_ 11 35 (h := tk_ 16 40 (h := tk_ 21 45 (h := ?_))))))))))))))))))))))
   refine on_ 22 46 fun K hK => ?_
   refine go_ Try.func77 #[.pointer (some (ad373.add (((rd_T109 l2 x8_1).f0).toNat * 4))), .int .i64 ((rd_T109 l2 x8_1).f1), .int .i64 ((rd_T109 l2 x8_1).f2), .int .i64 ((rd_T109 l2 x8_1).f3)] ?_
   with_reducible refine (spec_l19Cells.calls k1 _ [rd_T53 l1 ((rd_T109 l2 x8_1).f0)] ((rd_T109 l2 x8_1).f1) ((rd_T109 l2 x8_1).f2) ((rd_T109 l2 x8_1).f3) t377 _ ?side1 A13.out).mono ?_
   (case side1 => refine Go.Proofs.YtakagkflgkoiiaaX.rp_elem (xs := l1) z53 ((rd_T109 l2 x8_1).f0) (of_eq_true p373) (of_eq_true q373) ?_; repeat (first | exact (Kd.C_below HR1.out HB.out) | (with_reducible refine Kd.C_alloc ?_ _) | (with_reducible refine Kd.C_drewN ?_ _) | (with_reducible refine Kd.C_drew ?_)))
   rintro e w15 ⟨v378, rfl, ho0, hb⟩
   refine ⟨_, rfl, ?_⟩
   replace HO_7 := mkA (Kd.R_below (r_ HO_7.out) hb)
   have HO379 := mkA (Kd.R_lower ho0 (below_size (bs0_ HB.out)))
   replace HB := mkA (below_step (bs0_ HB.out) hb)
   (try clear hb)
   (try clear hb2)
   (try clear hk)
   (try clear hi)
   (try clear ho0)
   refine hK.out _ _ sp_ fun hHeld => ?_
   clear hK K
   refine nm_ 46 ?_
   refine a1_ 23 9 (h := ?_)
   refine dn_ ?_
   try go_wp2
   go_loopg [10] k1 (fun kq v10 w' => ∃ (x7_2 : List Int) (x10_2 : Int), v10 = .int .i64 x10_2 ∧ Aside0 (spec_l19Uncovered.l1 kq l1 l2 x7_2 x8_1 t377 x10_2 l0 = some r) ∧ Aside0 (kq ≤ k1) ∧ Aside0 (Kd.R (Kd.int .i64) 2 w' w.heap.size (fun _ => True) v370 x7_2) ∧ Aside0 (Kd.R k105 105 w' w.heap.size (fun _ => True) v378 t377) ∧ Aside0 (Below w.heap.size w w'))
   case atStart => exact ⟨(x7_1), (0), rf_, H', ⟨Nat.le_refl _⟩, ⟨r_ HO_7.out⟩, ⟨r_ HO379.out⟩, ⟨bs0_ HB.out⟩⟩
   case round =>
    clear H'
    try clear c4 c4b0 c4b1 c5 c5b0 c5b1 c6 c6b0 c6b1 c9 c9b0 c10 c10b0 c11 c11b0 c12 c12b0
    try clear hx368_0 hx368_1 hx368_2 hx372_0 hx372_1 hx372_2 hx372_3 hx373_0 hx373_1 hx373_2 hx373_3 hx374_0 hx374_1 hx374_2 hx374_3 hx375_0 hx375_1 hx375_2 hx375_3 hx376_0 hx376_1 hx376_2 hx376_3
    try clear p368 p372 p373 p374 p375 p376
    try clear q368 q372 q373 q374 q375 q376
    obtain ⟨x7_2, x10_2, rfl, HA, HK2, HO_7, HO_9, HB⟩ := hrel
    cases gk with
    | zero => exact absurd HA.out (by simp [spec_l19Uncovered.l1])
    | succ k2 =>
     have H := HA.out
     clear HA
     simp only [spec_l19Uncovered.l1] at H
     by_cases c16 : x10_2 < (t377.length : Int)
     rotate_left
     · rw [if_neg c16] at H
       have c16b0 := decide_eq_false c16
       clear c16
       have H' := mkA H
       clear H
       obtain ⟨Ao27, co27, eo27⟩ := Kd.R_slice HO_9.out
       subst eo27
       go_wp2
       go_roundg k2
       case measure => have := HK1.out; have := HK2.out; omega
       case rel => exact ⟨(x7_2), (wrap64 (x8_1 + 1)), rf_, H', ⟨on2_ HK1.out HK2.out⟩, ⟨r_ HO_7.out⟩, ⟨bs0_ HB.out⟩⟩
     rw [if_pos c16] at H
     have c16b0 := decide_eq_true c16
     clear c16
     revert H
     refine ng_ fun c17 => ng_ fun c18 => ?_
     intro H
     have c17b0 := decide_eq_true c17
     clear c17
     have c18b0 := decide_eq_true c18
     have c18b1 : decide (0 < l0.length) = true := decide_eq_true (by omega)
     clear c18
     obtain ⟨ji19, hji19⟩ : ∃ j_ : Int, (wrap64 ((wrap64 (((rd_T105 t377 x10_2).f1) * ((rd_T27 l0 0).f0))) + ((rd_T105 t377 x10_2).f0))) = j_ := ⟨_, rfl⟩
     replace H : (if 0 ≤ (ji19) then (if (ji19) < (x7_2.length : Int) then (spec_l19Uncovered.l1 k2 l1 l2 (x7_2.set ((ji19) : Int).toNat (wrap64 ((rd x7_2 (ji19)) + 1))) x8_1 t377 (wrap64 (x10_2 + 1)) l0) else (none)) else (none)) = some r := by first | (rw [hji19] at H; exact H) | (simp only [hji19] at H ⊢; exact H)
     have hji19w : (IntKind.i64.wrap ((wrap64 (((rd_T105 t377 x10_2).f1) * ((rd_T27 l0 0).f0))) + ((rd_T105 t377 x10_2).f0))) = ji19 := (i64_w _).trans hji19
     revert H
     refine ng_ fun c20 => ng_ fun c21 => ?_
     intro H
     have c20b0 := decide_eq_true c20
     clear c20
     have c21b0 := decide_eq_true c21
     clear c21
     obtain ⟨y384, hy384⟩ := gy_ (x7_2.set ((ji19) : Int).toNat (wrap64 ((rd x7_2 (ji19)) + 1)) : List Int)
     rw [← hy384] at H
     (try with_reducible replace H := bso_ H)
     have Ny384 := mkA hy384
     clear hy384
     have H' := mkA H
     clear H
     obtain ⟨Ao23, co23, eo23⟩ := Kd.R_slice HO_9.out
     subst eo23
     try go_wp2
     replace HO_7 := mkA (Kd.R_drew HO_7.out)
     replace HO_9 := mkA (Kd.R_drew HO_9.out)
     replace HB := mkA (below_drew1 HB.out)
     obtain ⟨ad380, e380, hx380_0, hx380_1⟩ := at_T105 (Kd.R_reads' HO_9.out).2.2 x10_2 dt_ dt_
     cases e380
     have p380 : (0 ≤ (x10_2 : Int)) = True := eq_true dt_
     have q380 : (x10_2 < (t377.length : Int)) = True := eq_true dt_
     obtain ⟨ad381, A381_2, c381_2, e381, hw381_0, hw381_1, hw381_2, hl381_2, hi381_2⟩ := at0_T27 HR0.out dt_
     obtain rfl : ad368 = ad381 := (by injection e381)
     have HR381_2 := mkA hi381_2
     have HC381_2 := mkA hl381_2
     clear hi381_2 hl381_2
     obtain ⟨hx381_0, hx381_1, hx381_2⟩ := b3_ HB.out hw381_0 hw381_1 hw381_2
     have p381 : (0 ≤ (0 : Int)) = True := eq_true (by omega)
     have q381 : (0 < (l0.length : Int)) = True := eq_true dt_
     have qi381 := qn_ q381
     obtain ⟨ad382, e382, hx382_0, hx382_1⟩ := at_T105 (Kd.R_reads' HO_9.out).2.2 x10_2 dt_ dt_
     obtain rfl : ad380 = ad382 := (by injection e382)
     have p382 : (0 ≤ (x10_2 : Int)) = True := eq_true dt_
     have q382 : (x10_2 < (t377.length : Int)) = True := eq_true dt_
     obtain ⟨Ao25, co25, eo25⟩ := Kd.R_slice HO_7.out
     (first | subst eo25 | (injection eo25 with f1_ f2_ f3_; have f4_ := f1_.symm; have f5_ := f3_.symm; clear f1_ f2_ f3_; subst f4_; subst f5_))
     obtain ⟨ad383, e383, hx383_0⟩ := Kd.at_int (Kd.R_reads' HO_7.out).2.2 (ji19) dt_ dt_
     cases e383
     have p383 : (0 ≤ ((ji19) : Int)) = True := eq_true dt_
     have q383 : ((ji19) < (x7_2.length : Int)) = True := eq_true dt_
     have p22 : 0 ≤ ((ji19) : Int) := dt_
     have q22 : ((ji19) : Int) < ((x7_2.length : Int) : Int) := dt_
     obtain ⟨go22, co22, eo22, gb22, gl22, cl22, HG22⟩ := Kd.R_form HO_7.out (by omega)
     (first | cases eo22 | (injection eo22 with ea_ en_ ec_; (first | subst ea_ | (injection ea_ with ea_; subst ea_)); subst ec_; clear en_))
     have GB22 := mkA gb22
     have GG22 := mkA HG22
     clear gb22 gl22 HG22
     (first | simp only [add_plain] at hx383_0 | skip)
     obtain ⟨hx22_0, hf22_0⟩ := Kd.R_celln 0 HO_7.out ((ji19) : Int) p22 q22
     replace p22 := eq_true p22
     replace q22 := eq_true q22
     have HP26 := Kd.R_putn HO_7.out ((ji19) : Int) (wrap64 ((rd x7_2 (ji19)) + 1))
     rw [← Ny384.out] at HP26
     have HQ26 := mkA HP26
     clear HP26
     refine st_ 22 (fun w' => C_ hx380_0 w' ∧ C_ hx380_1 w' ∧ C_ hw381_0 w' ∧ C_ hw381_1 w' ∧ C_ hw381_2 w' ∧ C_ hx382_0 w' ∧ C_ hx382_1 w' ∧ C_ hx383_0 w') [21] spec_l19Uncovered.tab9 spec_l19Uncovered.bits9 sp_ fun hHeld HT_ HW_ => ?_
     generalize wr.drew = w24 at HO_7 HO_9 HB GG22 HQ26 HR381_2 hf22_0 hx22_0 hx380_0 hx380_1 hx381_0 hx381_1 hx381_2 hx382_0 hx382_1 hx383_0 hHeld ⊢
     refine a1_ 0 53 (h := a1_ 1 54 (h := a1_ 2 55 (h := a1_ 3 56 (h := a1_ 4 57 (h := a1_ 6 59 (h := a1_ 7 60 (h := a1_ 8 61 (h := a1_ 11 64 (h := a1_ 12 65 (h := a1_ 13 66 (h := a1_ 14 67 (h := tk_ 5 58 (h := tk_ 9 62 (h := a1_ 10 63 (h := tk_ 15 68 (h := a1_ 16 69 (h := a1_ 17 70 (h := tk_ 18 71 (h := a1_ 19 72 (h := a1_ 20 73 (h := ?_)))))))))))))))))))))
     refine last_ (i := 21) (N := none) (fA 22 4194303) rfl rfl (one_of HT_.out (by kernel_rfl)) (by decide) (fun K hK => ?_)
     refine skip_ (w1 := ?_) (by rfl) rfl ?_ ?_
     rotate_left
     · go_simp
       rfl
     refine hK.out _ _ ?_
     clear hK K
     refine dn_ ?_
     try go_wp2
     go_roundg k2
     case measure => have := HK1.out; have := HK2.out; omega
     case rel => exact ⟨(y384), (wrap64 (x10_2 + 1)), rf_, H', ⟨on2_ HK1.out HK2.out⟩, ⟨r_ HQ26.out⟩, ⟨by refine r_ ?_; exact Kd.R_mono (Kd.R_far (p := ⟨go22, ((ji19) : Int).toNat, none⟩) (Kd.R_types HO_9.out GG22.out (by decide)) (fun _ hk => hk.2) (.int .i64 (wrap64 ((rd x7_2 (ji19)) + 1)))) (fun _ hk => trivial)⟩, ⟨by repeat (first | (with_reducible first | exact HB.out | apply below_alloc | apply pw_below_drewN | apply below_drew1 | refine below_set ?_ GB22.out) | exact HB.out)⟩⟩
end Go.Proofs.Ytakagkflgkoiiaa.GFnExactIsCover
